/- Lemmas. -/
import Derived.Test.YtabcgemembkkcaaGreatDoorDigsBR
set_option linter.all false
set_option maxHeartbeats 8000000
set_option maxRecDepth 100000
open Go.Proofs.Tryz
open Bool renaming false->qa,true->qm
open Decidable renaming decide->qb
open Go renaming RowKit.Below.refl->qc,Calls->qh,bodyPost_ret->qi,World->qj,IntKind.wrap_u64->qk,IntWalk.i64_in->ql
open Go.Proofs.Tryz renaming prog->qd
open Option renaming none->qe,some->qg
open Go.RowKit renaming Below->qf
namespace Go.Proofs.YtabcgemembkkcaaGreatDoor
namespace Nea
open Go Go.RowKit R5 Scn Sh Fms Exa
theorem qdn(E F:Nat)(w:qj)(h2:E<=11)(h4:F<=52):qh qd 58 #[fm E F] w fun e w'=>e=.returned (.int .u64 ((2^(E+F):Nat):Int))/\qf w.heap.size w w':=by
 have d:qf w.heap.size w (w.alloc (.cells #[.int .i64 (E:Int),.int .i64 (F:Int)] 23)):=(qc _ _).alloc lr _;obtain⟨a,c⟩:∃n:Nat,n=E+F:=⟨_,rfl⟩;have h:(E:Int)+(F:Int)=(a:Int):=by omega
 have i:(a:Int)<=63:=by omega
 obtain⟨P,b⟩:∃P:Nat,P=2^a:=⟨_,rfl⟩;have f:P<=9223372036854775808:=by rw[b];exact k07 (k00 (by decide) (show a<=63 by omega)) (by decide)
 have j:IntKind.u64.wrap ((2:Int)^a)=(P:Int):=by
  have e:((2:Int)^a)=(P:Int):=by rw[b,k0C];rfl
  rw[e,qk];omega
 have k:(E:Int)<=11:=by omega
 have l:(F:Int)<=52:=by omega
 rw[<- c,<- b];have g:=vv d;clear d f b c;go_enter func58,ntmps58;go_wp2;go_ret;exact⟨rfl,g.o⟩
theorem qdo(mode:Nat)(neg:Bool)(w:qj)(hm:mode<=4):qh qd 60 #[.int .u8 (mode:Int),.bool neg] w fun e w'=>e=.returned (.int .u8 ((Go.Proofs.YtabcgemembkkcaaGreatDoor.Sh.seen mode neg:Nat):Int))/\w=w':=by
 rcases(by omega:mode=0\/mode=1\/mode=2\/mode=3\/mode=4) with rfl|rfl|rfl|rfl|rfl<;>cases neg;all_goals
  go_enter func60,ntmps60;go_wp2;go_ret;exact⟨rfl,rfl⟩
theorem qd0(E F:Nat)(w:qj)(h1:2<=E)(h2:E<=11)(h3:1<=F)(h4:F<=52):qh qd 215 #[fm E F] w fun e w'=>e=.returned (.tuple #[.int .i64 (2-(2^(E-1):Nat)-F),.int .i64 (((2^(E-1):Nat):Int)-1),.int .i64 0])/\qf w.heap.size w w':=by
 have g:R3.formOk E F=qm:=by unfold R3.formOk;rw[k04 (p:=(2:Int)<=E) (by omega),k04 (p:=(E:Int)<=11) (by omega),k04 (p:=(1:Int)<=F) (by omega),k04 (p:=(F:Int)<=52) (by omega)];rfl
 obtain⟨u,f⟩:=yx (w.alloc (.cells #[.int .i64 (E:Int),.int .i64 (F:Int)] 23));have k:Cx w [(w.heap.size,23,[.int .i64 (E:Int),.int .i64 (F:Int)])] u:=by rw[f];exact(Cx.nil w).new _ [_,_] rfl
 have h:=vv fun w=>Check E F w
 rw[show R3.chk E F=0 by unfold R3.chk;rw[g];rfl] at h;have c:=vv fun w=>qdy (E-1) w (by omega)
 have i:((E-1:Nat):Int)=(E:Int)-1:=by omega
 rw[i] at c;obtain⟨M,a⟩:=yx (2^(E-1));have j:1<=M:=by rw[a];exact k0a _
 have m:M<=1024:=by rw[a];exact k07 (k00 (by decide) (show E-1<=10 by omega)) (by decide)
 rw[show R3.tw (E-1)-1=M-1 by rw[a];rfl] at c;rw[<- a];obtain⟨q,d⟩:=yx (M-1);rw[<- d] at c;have v:=vv d;have y:(q:Int)<=1023:=by omega
 have z:(E:Int)<=11:=by omega
 have C:2<=(E:Int):=by omega
 have D:(F:Int)<=52:=by omega
 have n:=vv j;have b:=vv k;have x:=vv f;clear f k g a d i m j;obtain⟨r,s,t⟩:=Blk.f2 (b.o.get 0 rfl);go_enter func215,ntmps215;go_wp2_with fail;rw[<- x.o];go_wp2_with fail;refine(h.o _).mono ?_;rintro e J ⟨rfl,l⟩;replace b:=vv (b.o.step l);clear r s t l;obtain⟨G,H,I⟩:=Blk.f2 (b.o.get 0 rfl);go_wp2_with fail;refine(c.o _).mono ?_;rintro e w' ⟨rfl,rfl⟩;go_wp2;go_ret3;refine⟨?_,b.o.low⟩;have d:=v.o;have h1:=n.o;show Ending.returned (.tuple #[.int .i64 (1-(q:Int)-(F:Int)),.int .i64 (q:Int),.int .i64 0])=_;rw[show 1-(q:Int)-(F:Int)=2-(M:Int)-F by omega,show(q:Int)=(M:Int)-1 by omega]
theorem qat(E F m:Nat)(w:qj)(h1:2<=E)(h2:E<=11)(h3:1<=F)(h4:F<=52)(hb:m<2^(E+F)):qh qd 126 #[fm E F,.int .u64 (m:Int)] w fun e w'=>e=.returned (.int .i64 (mgX E F m))/\qf w.heap.size w w':=by
 have hx:m/2^F<2^E:=k0s (by rw[<- k0e,k0Z];exact hb);have v:2^E<=2^11:=k00 (by decide) h2;have r:q0c E F m=m/2^F:=k0E hx;have l:m<2^(1+E+F):=k03 hb (k00 (by decide) (by omega));obtain⟨J,i⟩:=yx (w.alloc (.cells #[.int .i64 (E:Int),.int .i64 (F:Int)] 23));have c:Cx w [(w.heap.size,23,[.int .i64 (E:Int),.int .i64 (F:Int)])] J:=by rw[i];exact(Cx.nil w).new _ [_,_] rfl
 have d:=vv fun w=>Split E F m w h1 h2 h3 h4 l
 rw[r] at d;have n:=vv fun w=>qd0 E F w h1 h2 h3 h4
 obtain⟨M,g⟩:=yx (2^(E-1));have y:M<=1024:=by rw[g];exact k07 (k00 (by decide) (show E-1<=10 by omega)) (by decide)
 obtain⟨x,j⟩:=yx (m/2^F);have s:mgX E F m=2-(M:Int)-F+max (x:Int) 1-1:=by unfold mgX Go.Proofs.YtabcgemembkkcaaGreatDoor.Exa.powOf;rw[<- j,<- g];split<;>omega
 rw[s];rw[<- g] at n;rw[<- j] at d;have N:(x:Int)<=2048:=by omega
 have O:(M:Int)<=1024:=by omega
 have P:(F:Int)<=52:=by omega
 obtain⟨t,p⟩:=yx (q0M E F m);obtain⟨u,q⟩:=yx (q0r F m);rw[<- p,<- q] at d;have a:=vv c;have K:=vv i;clear i c hx v r l g y j s hb p q;obtain⟨z,C,D⟩:=Blk.f2 (a.o.get 0 rfl);go_enter func126,ntmps126;go_wp2_with fail;rw[<- K.o];go_wp2_with fail;refine(d.o _).mono ?_;rintro e h ⟨rfl,b⟩;replace a:=vv (a.o.step b);clear z C D b;obtain⟨G,H,I⟩:=Blk.f2 (a.o.get 0 rfl);go_wp2_with fail;obtain⟨Q,k⟩:=yx (h.heap.size);obtain⟨L,f⟩:=yx (h.alloc (.cells #[.bool t,.int .i64 (x:Int),.int .u64 (u:Int)] 58));have b:qf h.heap.size h L:=by rw[f];exact(qc _ _).alloc lr _
 have c:=a.o.new 58 [.bool t,.int .i64 (x:Int),.int .u64 (u:Int)] k;rw[<- f] at c 
 try rw[<- f]
 try rw[<- k]
 replace a:=vv c;clear G H I f b c k;refine(n.o _).mono ?_;rintro e V ⟨rfl,b⟩;replace a:=vv (a.o.step b);clear b;obtain⟨R,S,T,U⟩:=Blk.f3 (a.o.get 0 rfl);go_wp2;go_ret;exact⟨rfl,a.o.low⟩
structure One(w:qj)(g b:Nat):Prop where
 c:w.cell? ⟨g,0,qe⟩=qg (.int .u64 (b:Int))
 lt:g<w.heap.size
theorem One.below{w w':qj}{g b:Nat}(h:One w g b)(hb:qf w.heap.size w w'):One w' g b:=⟨(hb.cell (p:=⟨g,0,qe⟩) h.lt).trans h.c,k03 h.lt hb.size⟩
theorem q7J(E F:Int)(b g:Nat)(w:qj)(ho:One w g b)(hb:b<18446744073709551616)(h:q09 E F b≠0):qh qd 56 #[fm E F,.slice (qg ⟨g,0,qe⟩) 1 1] w fun e w'=>e=.returned (.tuple #[.int .i64 (q09 E F b),.bool qa])/\qf w.heap.size w w':=by
 obtain⟨v,i⟩:=yx (w.alloc (.cells #[.int .i64 E,.int .i64 F] 23));have a:Cx w [(w.heap.size,23,[.int .i64 E,.int .i64 F])] v:=by rw[i];exact(Cx.nil w).new _ [_,_] rfl
 have d:=vv (ho.below a.low);have f:=vv a;have x:=vv i;have k:=vv fun w=>Fits E F b w hb
 obtain⟨q,l⟩:=yx (q09 E F b);rw[<- l] at k h ⊢;have z:(q==0)=qa:=k05.2 h;clear i a ho h l;go_enter func56,ntmps56;go_wp2_with fail;rw[<- x.o];go_wp2_with fail;go_loopw [15] (fun t wr=>t=.int .i64 0/\Cx w [(w.heap.size,23,[.int .i64 E,.int .i64 F])] wr/\One wr g b) (fun t _=>(1-intOf t).toNat)
 case atStart=>exact⟨rfl,f.o,d.o⟩
 case round =>obtain⟨y,a,m⟩:=hrel;replace f:=vv a;replace d:=vv m;clear a m;subst y;obtain⟨n,p,r⟩:=Blk.f2 (f.o.get 0 rfl);have s:=d.o.c;have u:=d.o.lt;go_wp2_with fail;refine(k.o _).mono ?_;rintro e C ⟨rfl,j⟩;replace f:=vv (f.o.step j);replace d:=vv (d.o.below j);clear n p r s u j;go_wp2;go_ret2;exact⟨rfl,f.o.low⟩
theorem q2L(E F:Int)(b g:Nat)(w:qj)(ho:One w g b)(h:q09 E F b=0)(c:Nat)(hc5:(c==5)=qm)(hc:c<=5)(hcl:∀w,qh qd 64 #[fm E F,.int .u64 (b:Int)] w fun e w'=>e=.returned (.tuple #[.int .u8 (c:Int),.int .i64 0])/\qf w.heap.size w w')(hb:b<18446744073709551616):qh qd 56 #[fm E F,.slice (qg ⟨g,0,qe⟩) 1 1] w fun e w'=>e=.returned (.tuple #[.int .i64 0,.bool qa])/\qf w.heap.size w w':=by
 obtain⟨v,k⟩:=yx (w.alloc (.cells #[.int .i64 E,.int .i64 F] 23));have f:Cx w [(w.heap.size,23,[.int .i64 E,.int .i64 F])] v:=by rw[k];exact(Cx.nil w).new _ [_,_] rfl
 have a:=vv (ho.below f.low);have d:=vv f;have x:=vv k;have s:=vv fun w=>Fits E F b w hb
 rw[h] at s;have u:=vv hcl;have z:((c:Int)==5)=qm:=by rw[<- hc5,k2u,k1D,k1D];omega
 clear k f ho h hcl hc5 hc;go_enter func56,ntmps56;go_wp2_with fail;rw[<- x.o];go_wp2_with fail;go_loopw [15] (fun t wr=>(t=.int .i64 0\/t=.int .i64 1)/\Cx w [(w.heap.size,23,[.int .i64 E,.int .i64 F])] wr/\One wr g b) (fun t _=>(1-intOf t).toNat)
 case atStart=>exact⟨.inl rfl,d.o,a.o⟩
 case round =>
  obtain⟨r,f,j⟩:=hrel;replace d:=vv f;replace a:=vv j;clear f j;rcases r with rfl|rfl
  focus
   obtain⟨l,m,n⟩:=Blk.f2 (d.o.get 0 rfl);have p:=a.o.c;have q:=a.o.lt;go_wp2_with fail;refine(s.o _).mono ?_;rintro e y ⟨rfl,i⟩;replace d:=vv (d.o.step i);replace a:=vv (a.o.below i);clear l m n p q i;go_wp2;go_roundw
   case measure=>simp [intOf]
   case rel=>exact⟨.inr rfl,d.o,a.o⟩
  focus
   go_wp2_with fail;go_loopw [28] (fun t wr=>t=.int .i64 0/\Cx w [(w.heap.size,23,[.int .i64 E,.int .i64 F])] wr/\One wr g b) (fun t _=>(1-intOf t).toNat)
   case atStart=>exact⟨rfl,d.o,a.o⟩
   case round =>obtain⟨r,f,j⟩:=hrel;replace d:=vv f;replace a:=vv j;clear f j;subst r;obtain⟨l,m,n⟩:=Blk.f2 (d.o.get 0 rfl);have p:=a.o.c;have q:=a.o.lt;go_wp2_with fail;refine(u.o _).mono ?_;rintro e y ⟨rfl,i⟩;replace d:=vv (d.o.step i);replace a:=vv (a.o.below i);clear l m n p q i;go_wp2;go_ret2;exact⟨rfl,d.o.low⟩
theorem q2d(E F:Int)(b g:Nat)(w:qj)(ho:One w g b)(h:q09 E F b=0)(c:Nat)(hc5:(c==5)=qa)(hc:c<=5)(hcl:∀w,qh qd 64 #[fm E F,.int .u64 (b:Int)] w fun e w'=>e=.returned (.tuple #[.int .u8 (c:Int),.int .i64 0])/\qf w.heap.size w w')(hb:b<18446744073709551616):qh qd 56 #[fm E F,.slice (qg ⟨g,0,qe⟩) 1 1] w fun e w'=>e=.returned (.tuple #[.int .i64 0,.bool qm])/\qf w.heap.size w w':=by
 obtain⟨v,k⟩:=yx (w.alloc (.cells #[.int .i64 E,.int .i64 F] 23));have f:Cx w [(w.heap.size,23,[.int .i64 E,.int .i64 F])] v:=by rw[k];exact(Cx.nil w).new _ [_,_] rfl
 have a:=vv (ho.below f.low);have d:=vv f;have x:=vv k;have s:=vv fun w=>Fits E F b w hb
 rw[h] at s;have u:=vv hcl;have z:((c:Int)==5)=qa:=by rw[<- hc5,k2u,k1D,k1D];omega
 clear k f ho h hcl hc5 hc;go_enter func56,ntmps56;go_wp2_with fail;rw[<- x.o];go_wp2_with fail;go_loopw [15] (fun t wr=>(t=.int .i64 0\/t=.int .i64 1)/\Cx w [(w.heap.size,23,[.int .i64 E,.int .i64 F])] wr/\One wr g b) (fun t _=>(1-intOf t).toNat)
 case atStart=>exact⟨.inl rfl,d.o,a.o⟩
 case round =>
  obtain⟨r,f,j⟩:=hrel;replace d:=vv f;replace a:=vv j;clear f j;rcases r with rfl|rfl
  focus
   obtain⟨l,m,n⟩:=Blk.f2 (d.o.get 0 rfl);have p:=a.o.c;have q:=a.o.lt;go_wp2_with fail;refine(s.o _).mono ?_;rintro e y ⟨rfl,i⟩;replace d:=vv (d.o.step i);replace a:=vv (a.o.below i);clear l m n p q i;go_wp2;go_roundw
   case measure=>simp [intOf]
   case rel=>exact⟨.inr rfl,d.o,a.o⟩
  focus
   go_wp2_with fail;go_loopw [28] (fun t wr=>(t=.int .i64 0\/t=.int .i64 1)/\Cx w [(w.heap.size,23,[.int .i64 E,.int .i64 F])] wr/\One wr g b) (fun t _=>(1-intOf t).toNat)
   case atStart=>exact⟨.inl rfl,d.o,a.o⟩
   case round =>
    obtain⟨r,f,j⟩:=hrel;replace d:=vv f;replace a:=vv j;clear f j;rcases r with rfl|rfl
    focus
     obtain⟨l,m,n⟩:=Blk.f2 (d.o.get 0 rfl);have p:=a.o.c;have q:=a.o.lt;go_wp2_with fail;refine(u.o _).mono ?_;rintro e y ⟨rfl,i⟩;replace d:=vv (d.o.step i);replace a:=vv (a.o.below i);clear l m n p q i;go_wp2;go_roundw
     case measure=>simp [intOf]
     case rel=>exact⟨.inr rfl,d.o,a.o⟩
    focus
     go_wp2;go_ret2;exact⟨rfl,d.o.low⟩
theorem q6O(E F:Int)(b g:Nat)(w:qj)(ho:One w g b)(h:q09 E F b=0)(c:Nat)(hc3:qb (3<c)=qm)(hc:c<=5)(hcl:∀w,qh qd 64 #[fm E F,.int .u64 (b:Int)] w fun e w'=>e=.returned (.tuple #[.int .u8 (c:Int),.int .i64 0])/\qf w.heap.size w w')(hb:b<18446744073709551616):qh qd 57 #[fm E F,.slice (qg ⟨g,0,qe⟩) 1 1] w fun e w'=>e=.returned (.int .i64 8)/\qf w.heap.size w w':=by
 obtain⟨C,j⟩:=yx (w.alloc (.cells #[.int .i64 E,.int .i64 F] 23));have i:Cx w [(w.heap.size,23,[.int .i64 E,.int .i64 F])] C:=by rw[j];exact(Cx.nil w).new _ [_,_] rfl
 have a:=vv (ho.below i.low);have d:=vv i;have D:=vv j;have m:Hid (∀w,One w g b->qh qd 56 #[fm E F,.slice (qg ⟨g,0,qe⟩) 1 1] w fun e w'=>(∃is,e=.returned (.tuple #[.int .i64 0,.bool is]))/\qf w.heap.size w w'):=vv fun w k=>by
  cases h5:(c==5)
  ·exact(q2d E F b g w k h c h5 hc hcl hb).mono fun _ _ x=>⟨⟨_,x.1⟩,x.2⟩
  ·exact(q2L E F b g w k h c h5 hc hcl hb).mono fun _ _ x=>⟨⟨_,x.1⟩,x.2⟩
 have n:=vv hcl;have I:qb ((3:Int)<(c:Int))=qm:=by rw[<- hc3];exact k1y.2 (by omega)
 clear j i ho h hcl hc;obtain⟨p,q,r⟩:=Blk.f2 (d.o.get 0 rfl);go_enter func57,ntmps57;go_wp2_with fail;rw[<- D.o];go_wp2_with fail;refine(m.o _ a.o).mono ?_;rintro e J ⟨⟨is,rfl⟩,f⟩;replace d:=vv (d.o.step f);replace a:=vv (a.o.below f);clear p q r f;go_wp2_with fail;go_loopw [22] (fun t wr=>t=.int .i64 0/\Cx w [(w.heap.size,23,[.int .i64 E,.int .i64 F])] wr/\One wr g b) (fun t _=>(1-intOf t).toNat)
 case atStart=>exact⟨rfl,d.o,a.o⟩
 case round =>obtain⟨G,i,l⟩:=hrel;replace d:=vv i;replace a:=vv l;clear i l;subst G;obtain⟨s,u,v⟩:=Blk.f2 (d.o.get 0 rfl);have y:=a.o.c;have z:=a.o.lt;go_wp2_with fail;refine(n.o _).mono ?_;rintro e H ⟨rfl,f⟩;replace d:=vv (d.o.step f);replace a:=vv (a.o.below f);clear s u v y z f;go_wp2;go_ret;exact⟨rfl,d.o.low⟩
theorem q87(E F:Int)(b g:Nat)(w:qj)(ho:One w g b)(h:q09 E F b=0)(c:Nat)(hc3:qb (3<c)=qa)(hc:c<=5)(hcl:∀w,qh qd 64 #[fm E F,.int .u64 (b:Int)] w fun e w'=>e=.returned (.tuple #[.int .u8 (c:Int),.int .i64 0])/\qf w.heap.size w w')(hb:b<18446744073709551616):qh qd 57 #[fm E F,.slice (qg ⟨g,0,qe⟩) 1 1] w fun e w'=>e=.returned (.int .i64 0)/\qf w.heap.size w w':=by
 obtain⟨C,j⟩:=yx (w.alloc (.cells #[.int .i64 E,.int .i64 F] 23));have i:Cx w [(w.heap.size,23,[.int .i64 E,.int .i64 F])] C:=by rw[j];exact(Cx.nil w).new _ [_,_] rfl
 have a:=vv (ho.below i.low);have d:=vv i;have D:=vv j;have m:Hid (∀w,One w g b->qh qd 56 #[fm E F,.slice (qg ⟨g,0,qe⟩) 1 1] w fun e w'=>(∃is,e=.returned (.tuple #[.int .i64 0,.bool is]))/\qf w.heap.size w w'):=vv fun w k=>by
  cases h5:(c==5)
  ·exact(q2d E F b g w k h c h5 hc hcl hb).mono fun _ _ x=>⟨⟨_,x.1⟩,x.2⟩
  ·exact(q2L E F b g w k h c h5 hc hcl hb).mono fun _ _ x=>⟨⟨_,x.1⟩,x.2⟩
 have n:=vv hcl;have I:qb ((3:Int)<(c:Int))=qa:=by rw[<- hc3];exact k1y.2 (by omega)
 clear j i ho h hcl hc;obtain⟨p,q,r⟩:=Blk.f2 (d.o.get 0 rfl);go_enter func57,ntmps57;go_wp2_with fail;rw[<- D.o];go_wp2_with fail;refine(m.o _ a.o).mono ?_;rintro e J ⟨⟨is,rfl⟩,f⟩;replace d:=vv (d.o.step f);replace a:=vv (a.o.below f);clear p q r f;go_wp2_with fail;go_loopw [22] (fun t wr=>(t=.int .i64 0\/t=.int .i64 1)/\Cx w [(w.heap.size,23,[.int .i64 E,.int .i64 F])] wr/\One wr g b) (fun t _=>(1-intOf t).toNat)
 case atStart=>exact⟨.inl rfl,d.o,a.o⟩
 case round =>
  obtain⟨G,i,l⟩:=hrel;replace d:=vv i;replace a:=vv l;clear i l;rcases G with rfl|rfl
  focus
   obtain⟨s,u,v⟩:=Blk.f2 (d.o.get 0 rfl);have y:=a.o.c;have z:=a.o.lt;go_wp2_with fail;refine(n.o _).mono ?_;rintro e H ⟨rfl,f⟩;replace d:=vv (d.o.step f);replace a:=vv (a.o.below f);clear s u v y z f;go_wp2;go_roundw
   case measure=>simp [intOf]
   case rel=>exact⟨.inr rfl,d.o,a.o⟩
  focus
   go_wp2;go_ret;exact⟨rfl,d.o.low⟩
theorem q5s{F m:Nat}(h4:F<=52):bl (mgN F m)<=54:=by have:=q0A (q3p F m);omega
theorem q6y(p:Int):tw p=dq 1 p:=by unfold dq;rw[show((1:Nat):Rat)=1 from rfl,k2x]
theorem q3b(E F m:Nat):after E F m=dq (mgN F m+1) (mgX E F m):=by unfold after wv;rw[q2F,q6y]
theorem q2O(K:Nat)(p:Int):dq K p/2=dq K (p-1):=by
 have:dq K p=dq K (p-1)+dq K (p-1):=by unfold dq;rw[q3d p];grind
 grind
theorem q1P(E F m:Nat):wv E F m+after E F m=dq (2*mgN F m+1) (mgX E F m):=by rw[q3b];unfold wv;rw[<- q2F];congr 1;omega
theorem q3B(E F m:Nat)(h1:2<=E)(h2:E<=11)(h4:F<=52)(hm:m<2^(E+F)):∃(K:Nat) (p:Int),before E F m+wv E F m=dq K p/\bl K<=60 /\ -2000<=p/\p<=2500/\Rb (before E F m):=by
 obtain⟨d,e⟩:=q2W h1 h2 h4 hm;rcases k01 m with h|h
 ·refine⟨2*mgN F m,mgX E F m,?_,?_,by omega,by omega,?_⟩
  ·unfold before;rw[k0p h];unfold wv;rw[<- q2F];congr 1;omega
  ·have:=q1T 2 (mgN F m);have:=q5s (F:=F) (m:=m) h4;have:bl 2=2:=rfl;omega
  ·unfold before;rw[k0p h];exact Rb.dq (by have:=q5s (F:=F) (m:=m) h4;omega) (by omega) (by omega)
 ·obtain⟨K,p,a,b,f,c⟩:=q1Y E F m h;have g:bl K<=54:=by have:=q0A b;omega
  refine⟨2*K+1,p,?_,?_,by omega,by omega,by rw[a];exact Rb.dq (by omega) (by omega) (by omega)⟩
  ·rw[c,a,q6y,<- q2F,<- q2F];congr 1;omega
  ·have h1:=q1T 2 K;have h2:bl 2=2:=rfl;have:=q20 (2*K) 1 57 (by omega) (by decide);omega
def EdP(ed:Edges)(w:qj)(e:Ending)(w':qj):Prop:=
 ∃A1 n1 c1 N1 x1 A2 n2 c2 N2 x2,e=.returned (.tuple #[.agg #[.bool qa,.slice A1 n1 c1,.int .i64 x1,.bool qa,.slice A2 n2 c2,.int .i64 x2,.bool ed.ii,.bool ed.oi],.int .i64 0])/\DQ w' A1 n1 c1 N1 x1 ed.inner/\DQ w' A2 n2 c2 N2 x2 ed.outer/\qf w.heap.size w w'
theorem qc9(E F m mode:Nat)(w:qj)(h1:2<=E)(h2:E<=11)(h3:1<=F)(h4:F<=52)(hb:m<2^(E+F))(hf:m/2^F≠2^E-1)(hmo:mode<=3)(hst:Std w):qh qd 59 #[fm E F,.int .u64 (m:Int),.int .u8 (mode:Int)] w (EdP (q0D E F m mode) w):=by
 obtain⟨b1,b2⟩:=q2W h1 h2 h4 hb;have k7:=q5s (F:=F) (m:=m) h4;have i3:m<2^63:=k03 hb (k00 (by decide) (by omega));obtain⟨K,p,k1,k2,k3,k4,k5⟩:=q3B E F m h1 h2 h4 hb;obtain⟨w0,g4⟩:=yx ((w.alloc (.cells #[.int .i64 (E:Int),.int .i64 (F:Int)] 23)).alloc (.cells #[.bool qa,.slice qe 0 0,.int .i64 0,.bool qa,.slice qe 0 0,.int .i64 0,.bool qa,.bool qa] 106));have g:Cx w [(w.heap.size+1,106,[.bool qa,.slice qe 0 0,.int .i64 0,.bool qa,.slice qe 0 0,.int .i64 0,.bool qa,.bool qa]),(w.heap.size,23,[.int .i64 (E:Int),.int .i64 (F:Int)])] w0:=by rw[g4];exact((Cx.nil w).new _ [_,_] rfl).new _ [_,_,_,_,_,_,_,_] (by simp)
 have R:=vv hst;have k8:=vv fun w' (hs:Std w')=>qak E F m w' h1 h2 h3 h4 hb hf hs
 have f7:=vv fun w'=>qat E F m w' h1 h2 h3 h4 hb
 have e8:=vv fun G w' (k:RN w' G 1 1 1) (hs:Std w')=>qbx G 1 1 1 (mgX E F m) w' k.r (by decide) (Rb.dq (by decide) (by omega) (by omega)) (by omega) (by omega) hs
 rw[<- q6y] at e8;have r1:Rb (wv E F m+tw (mgX E F m)):=by show Rb (after E F m);rw[q3b];exact Rb.dq (by have:=q20 (mgN F m) 1 60 (by omega) (by decide);omega) (by omega) (by omega)
 have g5:=vv fun A n c N x B m' d M y w' (k:DQ w' A n c N x (wv E F m)) (k':DQ w' B m' d M y (tw (mgX E F m))) (hs:Std w')=>qel A n c N x (wv E F m) B m' d M y (tw (mgX E F m)) w' k k' r1 hs
 have e1:wv E F m+tw (mgX E F m)=after E F m:=rfl;rw[e1] at g5;have j4:=vv fun A n c N x B m' d M y w' (k:DQ w' A n c N x (before E F m)) (k':DQ w' B m' d M y (wv E F m)) (hs:Std w')=>qco A n c N x (before E F m) B m' d M y (wv E F m) w' k k' (by rw[k1];exact Rb.dq (by omega) (by omega) (by omega)) (by rw[k1,q2O];exact Rb.dq (by omega) (by omega) (by omega)) hs
 have hh:bl (2*mgN F m+1)<=60:=by have h1:=q1T 2 (mgN F m);have h2:bl 2=2:=rfl;have:=q20 (2*mgN F m) 1 57 (by omega) (by decide);omega
 have j5:=vv fun A n c N x B m' d M y w' (k:DQ w' A n c N x (wv E F m)) (k':DQ w' B m' d M y (after E F m)) (hs:Std w')=>qco A n c N x (wv E F m) B m' d M y (after E F m) w' k k' (by rw[q1P];exact Rb.dq (by omega) (by omega) (by omega)) (by rw[q1P,q2O];exact Rb.dq (by omega) (by omega) (by omega)) hs
 have k9:Hid (0<m->∀w',Std w'->qh qd 24 #[fm E F,.int .u64 ((m-1:Nat):Int)] w' (DQP (before E F m) w')):=vv fun h0 w' hs=>by
  have m9:(m-1)/2^F<=m/2^F:=Nat.div_le_div_right (by omega);have n0:m/2^F<2^E:=k0s (by rw[<- k0e,k0Z];exact hb);have:=qak E F (m-1) w' h1 h2 h3 h4 (by omega) (by omega) hs;unfold before
  rwa [k0r (by omega)]
 have l0:(bits .and .u64 (m:Int) 1==0)=(m%2==0):=by have:=Go.Proofs.YtabcgemembkkcaaGreatDoor.Fms.and_mask m 1 (by decide) (by omega);rw[show((R3.tw 1-1:Nat):Int)=1 from rfl,k1A] at this;rw[this];rcases k0U m with h|h<;>rw[h]<;>rfl
 obtain⟨ev,b0⟩:=yx ((m%2==0));rw[<- b0] at l0;obtain⟨X,hX⟩:=yx (mgX E F m);rw[<- hX] at f7 e8 g5 b1 b2;have l1:=vv b0;have a:=vv g;have HW:=vv g4;have hE:(E:Int)<=11:=by omega
 have hF:(F:Int)<=52:=by omega
 have n4:(m:Int)<9223372036854775808:=by omega
 obtain⟨ed,S⟩:=yx (q0D E F m mode);rw[<- S];have f8:=vv S;clear g4 g hst k7 i3 k1 k2 k3 k4 k5 r1 e1 hh b0 hX hb hf S;obtain⟨l2,l3,l4⟩:=Blk.f2 (a.o.get 1 rfl);go_enter func59,ntmps59;go_wp2_with fail;rw[<- HW.o];go_wp2_with fail;refine(k8.o _ (a.o.std R.o)).mono ?_;rintro e w4 ⟨G,n1,c1,N1,J,rfl,s,b⟩;replace a:=vv (a.o.step b);have f:=vv s;clear l2 l3 l4 b s;go_upto_region 4 with fail;obtain⟨g6,z⟩:=yx (w4.heap.size);obtain⟨w5,l⟩:=yx (w4.alloc (.cells #[.bool qa,.slice G n1 c1,.int .i64 J] 62));have b:qf w4.heap.size w4 w5:=by rw[l];exact(qc _ _).alloc lr _
 have g:=a.o.new 62 [.bool qa,.slice G n1 c1,.int .i64 J] z;rw[<- l] at g 
 try rw[<- l]
 try rw[<- z]
 replace a:=vv g;replace f:=vv (f.o.below b);clear l b g z;go_cut [9,10] (fun s9 s10 wx=>∃(ga:Nat) (A2:Option Addr) (n2 c2 N2:Nat) (x2:Int),s9=.int .i64 0/\s10=.pointer (qg ⟨ga,0,qe⟩)/\Cx w [(ga,62,[.bool qa,.slice A2 n2 c2,.int .i64 x2]),(g6,62,[.bool qa,.slice G n1 c1,.int .i64 J]),(w.heap.size+1,106,[.bool qa,.slice qe 0 0,.int .i64 0,.bool qa,.slice qe 0 0,.int .i64 0,.bool qa,.bool qa]),(w.heap.size,23,[.int .i64 (E:Int),.int .i64 (F:Int)])] wx/\DQ wx G n1 c1 N1 J (wv E F m)/\DQ wx A2 n2 c2 N2 x2 (tw X))
 case first =>
  go_wp2_with fail;obtain⟨f9,g0,l5⟩:=Blk.f2 (a.o.get 2 rfl);refine q02 (fun w'=>w'.cell? ⟨w.heap.size,0,qe⟩=qg (.int .i64 (E:Int))/\w'.cell? ⟨w.heap.size,1,qe⟩=qg (.int .i64 (F:Int))) 10
   (.still 1 (.still 2 (.two 0 (.two 3 (.two 4 (.still 5 (.still 6 (.still 7 (.one 8 (.one 9 .done))))) 8 (.one 4 (.still 5 (.still 6 (.still 7 (.one 9 .done)))))) 8 (.one 3 (.one 4 (.still 5 (.still 6 (.still 7 (.one 9 .done))))))) 8 (.one 0 (.one 3 (.one 4 (.still 5 (.still 6 (.still 7 (.one 9 .done)))))))))) ⟨f9,g0⟩ (fun l6=>?_)
  iterate 2
   refine q03 ?_
  clear l5 f9 g0;obtain⟨e9,g7⟩:=yx (w5.drew);have b:qf w5.heap.size w5 e9:=by rw[g7];exact q05 (qc _ _)
  replace a:=vv (a.o.step b);replace f:=vv (f.o.below b);rw[<- g7] at l6 ⊢;clear g7 b;refine q0e rfl (by rfl) rfl (by rfl) (fun K hK=>?_) (fun K hK=>?_)
  focus
   go_simp;refine(Nat_.Of1 e9).mono ?_;rintro e f1 ⟨A7,rfl,hR,b⟩;replace a:=vv (a.o.step b);replace f:=vv (f.o.below b);have u:=vv (RN.mk hR);clear b hR;go_wp2_with fail;refine hK.out _ _ (Blk.c2 (a.o.get 2 rfl)) (fun O=>?_);clear hK;refine q0e rfl (by rfl) rfl (by rfl) (fun K hK=>?_) (fun K hK=>?_)
   focus
    go_simp;refine(f7.o f1).mono ?_;rintro e g1 ⟨rfl,b⟩;replace a:=vv (a.o.step b);replace f:=vv (f.o.below b);replace u:=vv (u.o.below b);clear b;go_wp2_with fail;refine hK.out _ _ (Blk.c2 (a.o.get 2 rfl)) (fun O=>?_);clear hK;refine q0e rfl (by rfl) rfl (by rfl) (fun K hK=>?_) (fun K hK=>?_)
    focus
     go_simp;refine(e8.o _ _ u.o (a.o.std R.o)).mono ?_;rintro e g2 ⟨A2,n2,c2,N2,x2,rfl,s,b⟩;replace a:=vv (a.o.step b);replace f:=vv (f.o.below b);replace u:=vv (u.o.below b);have Q:=vv s;clear b s;go_wp2_with fail;refine hK.out _ _ (Blk.c2 (a.o.get 2 rfl)) (fun O=>?_);clear hK
     iterate 3
      refine q03 ?_
     refine q01 rfl (by rfl) (fun K hK=>?_);go_simp;obtain⟨ga,L⟩:=yx (g2.heap.size);obtain⟨j6,D⟩:=yx (g2.alloc (.cells #[.bool qa,.slice qe 0 0,.int .i64 0] 62));have b:qf g2.heap.size g2 j6:=by rw[D];exact(qc _ _).alloc lr _
     have g:=a.o.new 62 [.bool qa,.slice qe 0 0,.int .i64 0] L;rw[<- D] at g
     try rw[<- D]
     try rw[<- L]
     replace a:=vv g;replace f:=vv (f.o.below b);replace u:=vv (u.o.below b);replace Q:=vv (Q.o.below b);clear b g D L;refine hK.out _ _ (Blk.c2 (a.o.get 3 rfl)) (fun O=>?_);clear hK;obtain⟨wz,hz⟩:=yx (j6);subst hz
    rotate_left 1
    focus
     go_simp;obtain⟨ga,L⟩:=yx (g1.heap.size);obtain⟨f0,D⟩:=yx (g1.alloc (.cells #[.bool qa,.slice qe 0 0,.int .i64 0] 62));have b:qf g1.heap.size g1 f0:=by rw[D];exact(qc _ _).alloc lr _
     have g:=a.o.new 62 [.bool qa,.slice qe 0 0,.int .i64 0] L;rw[<- D] at g
     try rw[<- D]
     try rw[<- L]
     replace a:=vv g;replace f:=vv (f.o.below b);replace u:=vv (u.o.below b);clear b g D L;refine hK.out _ _ (Blk.c2 (a.o.get 3 rfl)) (fun O=>?_);clear hK;refine q01 rfl (by rfl) (fun K hK=>?_);go_simp;refine(e8.o _ _ u.o (a.o.std R.o)).mono ?_;rintro e l7 ⟨A2,n2,c2,N2,x2,rfl,s,b⟩;replace a:=vv (a.o.step b);replace f:=vv (f.o.below b);replace u:=vv (u.o.below b);have Q:=vv s;clear b s;go_wp2_with fail;refine hK.out _ _ (Blk.c2 (a.o.get 3 rfl)) (fun O=>?_);clear hK
     iterate 3
      refine q03 ?_
     obtain⟨wz,hz⟩:=yx (l7);subst hz
   rotate_left 2
   focus
    go_simp;obtain⟨ga,L⟩:=yx (f1.heap.size);obtain⟨j7,D⟩:=yx (f1.alloc (.cells #[.bool qa,.slice qe 0 0,.int .i64 0] 62));have b:qf f1.heap.size f1 j7:=by rw[D];exact(qc _ _).alloc lr _
    have g:=a.o.new 62 [.bool qa,.slice qe 0 0,.int .i64 0] L;rw[<- D] at g
    try rw[<- D]
    try rw[<- L]
    replace a:=vv g;replace f:=vv (f.o.below b);replace u:=vv (u.o.below b);clear b g D L;refine hK.out _ _ (Blk.c2 (a.o.get 3 rfl)) (fun O=>?_);clear hK;refine q01 rfl (by rfl) (fun K hK=>?_);go_simp;refine(f7.o j7).mono ?_;rintro e n6 ⟨rfl,b⟩;replace a:=vv (a.o.step b);replace f:=vv (f.o.below b);replace u:=vv (u.o.below b);clear b;go_wp2_with fail;refine hK.out _ _ (Blk.c2 (a.o.get 3 rfl)) (fun O=>?_);clear hK;refine q01 rfl (by rfl) (fun K hK=>?_);go_simp;refine(e8.o _ _ u.o (a.o.std R.o)).mono ?_;rintro e l8 ⟨A2,n2,c2,N2,x2,rfl,s,b⟩;replace a:=vv (a.o.step b);replace f:=vv (f.o.below b);replace u:=vv (u.o.below b);have Q:=vv s;clear b s;go_wp2_with fail;refine hK.out _ _ (Blk.c2 (a.o.get 3 rfl)) (fun O=>?_);clear hK
    iterate 3
     refine q03 ?_
    obtain⟨wz,hz⟩:=yx (l8);subst hz
  rotate_left 3
  focus
   go_simp;obtain⟨ga,L⟩:=yx (e9.heap.size);obtain⟨a9,D⟩:=yx (e9.alloc (.cells #[.bool qa,.slice qe 0 0,.int .i64 0] 62));have b:qf e9.heap.size e9 a9:=by rw[D];exact(qc _ _).alloc lr _
   have g:=a.o.new 62 [.bool qa,.slice qe 0 0,.int .i64 0] L;rw[<- D] at g
   try rw[<- D]
   try rw[<- L]
   replace a:=vv g;replace f:=vv (f.o.below b);clear b g D L;refine hK.out _ _ (Blk.c2 (a.o.get 3 rfl)) (fun O=>?_);clear hK;refine q01 rfl (by rfl) (fun K hK=>?_);go_simp;refine(Nat_.Of1 a9).mono ?_;rintro e l9 ⟨A7,rfl,hR,b⟩;replace a:=vv (a.o.step b);replace f:=vv (f.o.below b);have u:=vv (RN.mk hR);clear b hR;go_wp2_with fail;refine hK.out _ _ (Blk.c2 (a.o.get 3 rfl)) (fun O=>?_);clear hK;refine q01 rfl (by rfl) (fun K hK=>?_);go_simp;refine(f7.o l9).mono ?_;rintro e g8 ⟨rfl,b⟩;replace a:=vv (a.o.step b);replace f:=vv (f.o.below b);replace u:=vv (u.o.below b);clear b;go_wp2_with fail;refine hK.out _ _ (Blk.c2 (a.o.get 3 rfl)) (fun O=>?_);clear hK;refine q01 rfl (by rfl) (fun K hK=>?_);go_simp;refine(e8.o _ _ u.o (a.o.std R.o)).mono ?_;rintro e m0 ⟨A2,n2,c2,N2,x2,rfl,s,b⟩;replace a:=vv (a.o.step b);replace f:=vv (f.o.below b);replace u:=vv (u.o.below b);have Q:=vv s;clear b s;go_wp2_with fail;refine hK.out _ _ (Blk.c2 (a.o.get 3 rfl)) (fun O=>?_);clear hK
   iterate 3
    refine q03 ?_
   obtain⟨wz,hz⟩:=yx (m0);subst hz
  all_goals
   refine q01 rfl (by rfl) (fun K hK=>?_);have i:=vv (a.o.get 0 rfl)
   with_reducible refine q0b 62 (.tmp 10) (.tmp 32) rfl ga [.bool qa,.slice A2 n2 c2,.int .i64 x2] rfl rfl 62 _ i.o (by kernel_rfl) rfl rfl ?_
   intro n7 I q;replace a:=vv (a.o.put 0 rfl I q);replace f:=vv (f.o.apart_ i.o rfl q);replace u:=vv (u.o.apart_ i.o rfl q);replace Q:=vv (Q.o.apart_ i.o rfl q);clear i I q;refine hK.out _ _ (Blk.c2 (a.o.get 3 rfl)) (fun O=>?_);clear hK;refine q08 ?_;simp only[k0o,k0w];go_wp2_with fail;go_meet;exact⟨ga,A2,n2,c2,N2,x2,rfl,rfl,a.o,f.o,Q.o⟩
 case rest =>
  obtain⟨ga,A2,n2,c2,N2,x2,rfl,rfl,g,f4,j8⟩:=hcut;replace a:=vv g;replace f:=vv f4;have Q:=vv j8;clear g f4 j8;obtain⟨f9,g0,m1,i4⟩:=Blk.f3 (a.o.get 0 rfl);obtain⟨i5,i6,i7,i8⟩:=Blk.f3 (a.o.get 1 rfl);go_wp2_with fail;refine(g5.o _ _ _ _ _ _ _ _ _ _ _ f.o Q.o (a.o.std R.o)).mono ?_;rintro e f0 ⟨A3,n3,c3,N3,x3,rfl,s,b⟩;replace a:=vv (a.o.step b);replace f:=vv (f.o.below b);replace Q:=vv (Q.o.below b);have t:=vv s;clear f9 g0 m1 i4 i5 i6 i7 i8 b s;obtain⟨i9,j0,j1,j2⟩:=Blk.f3 (a.o.get 1 rfl);go_upto_if 50 with fail;obtain⟨g3,z⟩:=yx (f0.heap.size);obtain⟨a9,l⟩:=yx (f0.alloc (.cells #[.bool qa,.slice A3 n3 c3,.int .i64 x3] 62));have b:qf f0.heap.size f0 a9:=by rw[l];exact(qc _ _).alloc lr _
  have g:=a.o.new 62 [.bool qa,.slice A3 n3 c3,.int .i64 x3] z;have f6:(g3+1:Nat)=a9.heap.size:=by rw[l,World.size_alloc,<- z]
  rw[<- l] at g 
  try rw[<- l]
  try rw[<- z]
  replace a:=vv g;replace f:=vv (f.o.below b);replace t:=vv (t.o.below b);clear i9 j0 j1 j2 l b g z;obtain⟨g8,l⟩:=yx (a9.alloc (.cells #[.bool qa,.slice G n1 c1,.int .i64 J] 62));have b:qf a9.heap.size a9 g8:=by rw[l];exact(qc _ _).alloc lr _
  have g:=a.o.new 62 [.bool qa,.slice G n1 c1,.int .i64 J] f6;rw[<- l] at g 
  try rw[<- l]
  replace a:=vv g;replace f:=vv (f.o.below b);replace t:=vv (t.o.below b);clear l b g f6;go_cut [9] (fun s9 wx=>∃(A5:Option Addr) (n5 c5 N5:Nat) (x5:Int),s9=.int .i64 0/\Cx w [((g3+1),62,[.bool qa,.slice A5 n5 c5,.int .i64 x5]),(g3,62,[.bool qa,.slice A3 n3 c3,.int .i64 x3]),(ga,62,[.bool qa,.slice A2 n2 c2,.int .i64 x2]),(g6,62,[.bool qa,.slice G n1 c1,.int .i64 J]),(w.heap.size+1,106,[.bool qa,.slice qe 0 0,.int .i64 0,.bool qa,.slice qe 0 0,.int .i64 0,.bool qa,.bool qa]),(w.heap.size,23,[.int .i64 (E:Int),.int .i64 (F:Int)])] wx/\DQ wx G n1 c1 N1 J (wv E F m)/\DQ wx A3 n3 c3 N3 x3 (after E F m)/\DQ wx A5 n5 c5 N5 x5 (before E F m))
  case first =>
   rcases k01 m with f5|f5
   ·have t0:qb (0<m)=qa:=k02 (by omega);have j9:before E F m=wv E F m:=by unfold before;rw[k0p f5]
    have m2:Hid (DQ g8 G n1 c1 N1 J (before E F m)):=vv (by rw[j9];exact f.o);clear j9 f5;rw[t0];go_wp2_with fail;go_meet;exact⟨G,n1,c1,N1,J,rfl,a.o,f.o,t.o,m2.o⟩
   ·have t0:qb (0<m)=qm:=k04 f5;have m3:(m:Int)-1=((m-1:Nat):Int):=by omega
    obtain⟨j,hj⟩:=yx (m-1);have g9:=k9.o f5;rw[<- hj] at m3 g9;have m4:=vv g9;clear g9 hj;rw[t0];obtain⟨a0,a1,a2,a3⟩:=Blk.f3 (a.o.get 1 rfl);obtain⟨a4,a5,j3⟩:=Blk.f2 (a.o.get 5 rfl);go_wp2_with fail;refine(m4.o _ (a.o.std R.o)).mono ?_;rintro e o0 ⟨A5,n5,c5,N5,x5,rfl,s,b⟩;replace a:=vv (a.o.step b);replace f:=vv (f.o.below b);replace t:=vv (t.o.below b);have C:=vv s;clear a0 a1 a2 a3 a4 a5 j3 b s;have i:=vv (a.o.get 0 rfl);go_wp2_with (with_reducible refine q00 rfl 62 (.tmp 12) (.tmp 56) rfl (g3+1) [.bool qa,.slice A5 n5 c5,.int .i64 x5] rfl rfl 62 _ i.o (by kernel_rfl) rfl rfl ?_);intro P I q;clear i;have i:=vv (a.o.get 0 rfl);replace a:=vv (a.o.put 0 rfl I q);replace f:=vv (f.o.apart_ i.o rfl q);replace t:=vv (t.o.apart_ i.o rfl q);replace C:=vv (C.o.apart_ i.o rfl q);clear i I q;go_wp2_with fail;go_meet;exact⟨A5,n5,c5,N5,x5,rfl,a.o,f.o,t.o,C.o⟩
  case rest =>
   obtain⟨A5,n5,c5,N5,x5,rfl,g,f4,k0,k6⟩:=hcut;replace a:=vv g;replace f:=vv f4;replace t:=vv k0;have C:=vv k6;clear g f4 k0 k6;rcases(by omega:mode=0\/mode=1\/mode=2\/mode=3) with rfl|rfl|rfl|rfl
   focus
    have S:ed=⟨(before E F m+wv E F m)/2,(wv E F m+after E F m)/2,ev,ev⟩:=by rw[f8.o,l1.o];rfl
    subst S;obtain⟨a0,a1,a2,a3⟩:=Blk.f3 (a.o.get 0 rfl);obtain⟨a4,a5,a6,a7⟩:=Blk.f3 (a.o.get 3 rfl);go_wp2_with fail;refine(j4.o _ _ _ _ _ _ _ _ _ _ _ C.o f.o (a.o.std R.o)).mono ?_;rintro e P ⟨T,n8,c8,N8,U,rfl,s,b⟩;replace a:=vv (a.o.step b);replace f:=vv (f.o.below b);replace t:=vv (t.o.below b);replace C:=vv (C.o.below b);have H:=vv s;clear a0 a1 a2 a3 a4 a5 a6 a7 b s;obtain⟨b3,b4,b5,b6⟩:=Blk.f3 (a.o.get 1 rfl);obtain⟨b7,b8,b9,c0⟩:=Blk.f3 (a.o.get 3 rfl);go_wp2_with fail;obtain⟨m5,z⟩:=yx (P.heap.size);obtain⟨i0,l⟩:=yx (P.alloc (.cells #[.bool qa,.slice T n8 c8,.int .i64 U] 62));have b:qf P.heap.size P i0:=by rw[l];exact(qc _ _).alloc lr _
    have g:=a.o.new 62 [.bool qa,.slice T n8 c8,.int .i64 U] z;rw[<- l] at g 
    try rw[<- l]
    try rw[<- z]
    replace a:=vv g;replace f:=vv (f.o.below b);replace t:=vv (t.o.below b);replace C:=vv (C.o.below b);replace H:=vv (H.o.below b);clear b3 b4 b5 b6 b7 b8 b9 c0 l b g z;refine(j5.o _ _ _ _ _ _ _ _ _ _ _ f.o t.o (a.o.std R.o)).mono ?_;rintro e a8 ⟨V,W,Y,N9,Z,rfl,s,b⟩;replace a:=vv (a.o.step b);replace f:=vv (f.o.below b);replace t:=vv (t.o.below b);replace C:=vv (C.o.below b);replace H:=vv (H.o.below b);have H9:=vv s;clear b s;obtain⟨c4,c6,c7,d0⟩:=Blk.f3 (a.o.get 0 rfl);have i:=vv (a.o.get 5 rfl);go_wp2_with (with_reducible refine q00 rfl 106 (.tmp 6) (.tmp 104) rfl (w.heap.size+1) [.bool qa,.slice T n8 c8,.int .i64 U,.bool qa,.slice V W Y,.int .i64 Z,.bool ev,.bool ev] rfl rfl 106 _ (i.o.alloc _) (by kernel_rfl) rfl rfl ?_);intro m6 I q;clear i;obtain⟨m7,z⟩:=yx (a8.heap.size);obtain⟨i1,l⟩:=yx (a8.alloc (.cells #[.bool qa,.slice V W Y,.int .i64 Z] 62));have b:qf a8.heap.size a8 i1:=by rw[l];exact(qc _ _).alloc lr _
    have g:=a.o.new 62 [.bool qa,.slice V W Y,.int .i64 Z] z;rw[<- l] at g q
    try rw[<- l]
    try rw[<- z]
    replace a:=vv g;replace H:=vv (H.o.below b);replace H9:=vv (H9.o.below b);clear c4 c6 c7 d0 l b g z;have i:=vv (a.o.get 6 rfl);replace a:=vv (a.o.put 6 rfl I q);replace H:=vv (H.o.apart_ i.o rfl q);replace H9:=vv (H9.o.apart_ i.o rfl q);clear i I q;go_wp2;obtain⟨d1,d2,d3,d4,d5,d6,d7,d8⟩:=Blk.c8 (a.o.get 6 rfl);exact qi (v:=.tuple #[.agg #[.bool qa,.slice T n8 c8,.int .i64 U,.bool qa,.slice V W Y,.int .i64 Z,.bool ev,.bool ev],.int .i64 0]) (by simp [results,results59,go_sem,d1,d2,d3,d4,d5,d6,d7,d8]) rfl ⟨T,n8,c8,N8,U,V,W,Y,N9,Z,rfl,H.o,H9.o,a.o.low⟩
   focus
    have S:ed=⟨(before E F m+wv E F m)/2,(wv E F m+after E F m)/2,qm,qa⟩:=by rw[f8.o];rfl
    subst S;obtain⟨a0,a1,a2,a3⟩:=Blk.f3 (a.o.get 0 rfl);obtain⟨a4,a5,a6,a7⟩:=Blk.f3 (a.o.get 3 rfl);go_wp2_with fail;refine(j4.o _ _ _ _ _ _ _ _ _ _ _ C.o f.o (a.o.std R.o)).mono ?_;rintro e P ⟨T,n8,c8,N8,U,rfl,s,b⟩;replace a:=vv (a.o.step b);replace f:=vv (f.o.below b);replace t:=vv (t.o.below b);replace C:=vv (C.o.below b);have H:=vv s;clear a0 a1 a2 a3 a4 a5 a6 a7 b s;obtain⟨b3,b4,b5,b6⟩:=Blk.f3 (a.o.get 1 rfl);obtain⟨b7,b8,b9,c0⟩:=Blk.f3 (a.o.get 3 rfl);go_wp2_with fail;obtain⟨m5,z⟩:=yx (P.heap.size);obtain⟨i0,l⟩:=yx (P.alloc (.cells #[.bool qa,.slice T n8 c8,.int .i64 U] 62));have b:qf P.heap.size P i0:=by rw[l];exact(qc _ _).alloc lr _
    have g:=a.o.new 62 [.bool qa,.slice T n8 c8,.int .i64 U] z;rw[<- l] at g 
    try rw[<- l]
    try rw[<- z]
    replace a:=vv g;replace f:=vv (f.o.below b);replace t:=vv (t.o.below b);replace C:=vv (C.o.below b);replace H:=vv (H.o.below b);clear b3 b4 b5 b6 b7 b8 b9 c0 l b g z;refine(j5.o _ _ _ _ _ _ _ _ _ _ _ f.o t.o (a.o.std R.o)).mono ?_;rintro e a8 ⟨V,W,Y,N9,Z,rfl,s,b⟩;replace a:=vv (a.o.step b);replace f:=vv (f.o.below b);replace t:=vv (t.o.below b);replace C:=vv (C.o.below b);replace H:=vv (H.o.below b);have H9:=vv s;clear b s;obtain⟨c4,c6,c7,d0⟩:=Blk.f3 (a.o.get 0 rfl);have i:=vv (a.o.get 5 rfl);go_wp2_with (with_reducible refine q00 rfl 106 (.tmp 6) (.tmp 98) rfl (w.heap.size+1) [.bool qa,.slice T n8 c8,.int .i64 U,.bool qa,.slice V W Y,.int .i64 Z,.bool qm,.bool qa] rfl rfl 106 _ (i.o.alloc _) (by kernel_rfl) rfl rfl ?_);intro m6 I q;clear i;obtain⟨m7,z⟩:=yx (a8.heap.size);obtain⟨i1,l⟩:=yx (a8.alloc (.cells #[.bool qa,.slice V W Y,.int .i64 Z] 62));have b:qf a8.heap.size a8 i1:=by rw[l];exact(qc _ _).alloc lr _
    have g:=a.o.new 62 [.bool qa,.slice V W Y,.int .i64 Z] z;rw[<- l] at g q
    try rw[<- l]
    try rw[<- z]
    replace a:=vv g;replace H:=vv (H.o.below b);replace H9:=vv (H9.o.below b);clear c4 c6 c7 d0 l b g z;have i:=vv (a.o.get 6 rfl);replace a:=vv (a.o.put 6 rfl I q);replace H:=vv (H.o.apart_ i.o rfl q);replace H9:=vv (H9.o.apart_ i.o rfl q);clear i I q;go_wp2;obtain⟨d1,d2,d3,d4,d5,d6,d7,d8⟩:=Blk.c8 (a.o.get 6 rfl);exact qi (v:=.tuple #[.agg #[.bool qa,.slice T n8 c8,.int .i64 U,.bool qa,.slice V W Y,.int .i64 Z,.bool qm,.bool qa],.int .i64 0]) (by simp [results,results59,go_sem,d1,d2,d3,d4,d5,d6,d7,d8]) rfl ⟨T,n8,c8,N8,U,V,W,Y,N9,Z,rfl,H.o,H9.o,a.o.low⟩
   focus
    have S:ed=⟨wv E F m,after E F m,qm,qa⟩:=by rw[f8.o];rfl
    subst S;obtain⟨a0,a1,a2,a3⟩:=Blk.f3 (a.o.get 1 rfl);obtain⟨a4,a5,a6,a7⟩:=Blk.f3 (a.o.get 3 rfl);have i:=vv (a.o.get 4 rfl);go_wp2_with (with_reducible refine q00 rfl 106 (.tmp 6) (.tmp 70) rfl (w.heap.size+1) [.bool qa,.slice G n1 c1,.int .i64 J,.bool qa,.slice A3 n3 c3,.int .i64 x3,.bool qm,.bool qa] rfl rfl 106 _ i.o (by kernel_rfl) rfl rfl ?_);intro P I q;clear i;have i:=vv (a.o.get 4 rfl);replace a:=vv (a.o.put 4 rfl I q);replace f:=vv (f.o.apart_ i.o rfl q);replace t:=vv (t.o.apart_ i.o rfl q);replace C:=vv (C.o.apart_ i.o rfl q);clear a0 a1 a2 a3 a4 a5 a6 a7 i I q;go_wp2;obtain⟨d9,e0,e2,e3,e4,e5,e6,e7⟩:=Blk.c8 (a.o.get 4 rfl);exact qi (v:=.tuple #[.agg #[.bool qa,.slice G n1 c1,.int .i64 J,.bool qa,.slice A3 n3 c3,.int .i64 x3,.bool qm,.bool qa],.int .i64 0]) (by simp [results,results59,go_sem,d9,e0,e2,e3,e4,e5,e6,e7]) rfl ⟨G,n1,c1,N1,J,A3,n3,c3,N3,x3,rfl,f.o,t.o,a.o.low⟩
   focus
    have S:ed=⟨before E F m,wv E F m,m==0,qm⟩:=by rw[f8.o];rfl
    subst S;obtain⟨a0,a1,a2,a3⟩:=Blk.f3 (a.o.get 0 rfl);obtain⟨a4,a5,a6,a7⟩:=Blk.f3 (a.o.get 3 rfl);obtain⟨z0,i2⟩:=yx ((m==0));have o1:((m:Int)==0)=z0:=by rw[i2,k2u,k1D,k1D];omega
    have m8:=vv i2;clear i2;have i:=vv (a.o.get 4 rfl);go_wp2_with (with_reducible refine q00 rfl 106 (.tmp 6) (.tmp 77) rfl (w.heap.size+1) [.bool qa,.slice A5 n5 c5,.int .i64 x5,.bool qa,.slice G n1 c1,.int .i64 J,.bool z0,.bool qm] rfl rfl 106 _ i.o (by kernel_rfl) rfl rfl ?_);intro P I q;clear i;have i:=vv (a.o.get 4 rfl);replace a:=vv (a.o.put 4 rfl I q);replace f:=vv (f.o.apart_ i.o rfl q);replace t:=vv (t.o.apart_ i.o rfl q);replace C:=vv (C.o.apart_ i.o rfl q);clear a0 a1 a2 a3 a4 a5 a6 a7 i I q;go_wp2;obtain⟨d9,e0,e2,e3,e4,e5,e6,e7⟩:=Blk.c8 (a.o.get 4 rfl);exact qi (v:=.tuple #[.agg #[.bool qa,.slice A5 n5 c5,.int .i64 x5,.bool qa,.slice G n1 c1,.int .i64 J,.bool z0,.bool qm],.int .i64 0]) (by simp [results,results59,go_sem,d9,e0,e2,e3,e4,e5,e6,e7]) rfl ⟨A5,n5,c5,N5,x5,G,n1,c1,N1,J,by rw[m8.o],C.o,f.o,a.o.low⟩
theorem qbq{b k:Nat}(hk:k<=63)(hb:b<2^(k+1)):(bits .and .u64 (b:Int) ((2^k:Nat):Int)==0)=!qb (2^k<=b):=by
 have c:2^k<=2^63:=k00 (by decide) hk;have d:(2:Nat)^63=9223372036854775808:=rfl;have f:=k0d 2 k;rw[u64_and_nat _ _ (by omega) (by omega)];have g:=k0a k;have a:b.testBit k=qb (2^k<=b):=by
  rw[Nat.testBit_eq_decide_div_mod_eq];by_cases h:2^k<=b
  ·have e:b/2^k=1:=k1I (by omega) (by omega);rw[e,k04 h];rfl
  ·have e:b/2^k=0:=k0K (by omega);rw[e,k02 h];rfl
 have e:b &&& 2^k=if 2^k<=b then 2^k else 0:=by
  refine Nat.eq_of_testBit_eq fun i=>?_
  rw[Nat.testBit_and,k2I];by_cases hi:k=i
  ·subst hi;rw[a];by_cases h:2^k<=b
   ·rw[k0p h,k04 h,k2I];rfl
   ·rw[k0r h,k02 h,Nat.zero_testBit];rfl
  ·rw[k02 hi,Bool.and_false];by_cases h:2^k<=b
   ·rw[k0p h,k2I,k02 hi]
   ·rw[k0r h,Nat.zero_testBit]
 rw[e];by_cases h:2^k<=b
 ·rw[k0p h,k04 h,k2M,k05];omega
 ·rw[k0r h,k02 h];rfl
theorem q6X{b k:Nat}(hk:k<=63)(hb:b<2^(k+1)):bits .andNot .u64 (b:Int) ((2^k:Nat):Int)=((b%2^k:Nat):Int):=by
 have c:2^k<=2^63:=k00 (by decide) hk;have d:(2:Nat)^63=9223372036854775808:=rfl;have e:=k0d 2 k;rw[u64_andNot_nat _ _ (by omega) (by omega)];congr 1;refine Nat.eq_of_testBit_eq fun i=>?_
 have a:18446744073709551615-2^k=2^64-(2^k+1):=by have:(2:Nat)^64=18446744073709551616:=rfl;omega
 rw[Nat.testBit_and,Nat.testBit_mod_two_pow,a,Nat.testBit_two_pow_sub_succ (by have:(2:Nat)^64=18446744073709551616:=rfl;omega),k2I];rcases k1K i k with h|h|h
 ·rw[k04 h,k04 (p:=i<64) (by omega),k02 (p:=k=i) (by omega)];simp
 ·subst h;simp
 ·have:b.testBit i=qa:=Nat.testBit_lt_two_pow (k03 hb (k00 (by decide) h));rw[this];simp
end Nea
namespace Nea
open Go Go.RowKit R5 Scn Sh Fms Exa Sho Rtp
def qe9(s:Span)(w:qj)(e:Ending)(w':qj):Prop:=∃l h:RV,e=.returned (.tuple #[l.v,h.v,.bool s.li,.bool s.hn,.int .i64 0])/\SI w' l h s/\qf w.heap.size w w'
theorem q7v{mode:Nat}(neg:Bool)(h:mode<=4):Go.Proofs.YtabcgemembkkcaaGreatDoor.Sh.seen mode neg<=3:=by unfold Go.Proofs.YtabcgemembkkcaaGreatDoor.Sh.seen;rcases(by omega:mode=0\/mode=1\/mode=2\/mode=3\/mode=4) with rfl|rfl|rfl|rfl|rfl<;>cases neg<;>decide
theorem q1M(E F b:Nat):q0o E F b/2^F=q0c E F b:=by unfold q0o q0c;rw[k0Z,k0e,k1Q]
theorem q4R{E F b:Nat}(h1:2<=E)(h2:E<=11)(h3:1<=F)(h4:F<=52)(hb:b<2^(1+E+F)):q09 (E:Int) (F:Int) b=0:=by
 have:=q0A hb;have e:R3.formOk (E:Int) (F:Int)=qm:=by unfold R3.formOk;simp only[k13,k12];omega
 unfold q09;rw[e,k0p rfl,k0r (by omega)]
theorem q5I{E x f:Nat}(h:x≠2^E-1):q1a E x f<=3:=by
 unfold q1a;rw[k0r (c:=x=R3.tw E-1) h];split
 ·split<;>decide
 ·decide
theorem Qb.dq{K B:Nat}{p:Int}(h1:bl K+p.toNat+1<=B)(h2:(-p).toNat+1<=B):Qb B (Sh.dq K p):=by rw[qcG];refine Qb.mk (Nat.ne_of_gt (q1d _)) ?_ (k07 (Hx.bl_p2 _) h2);rw[k08];exact k07 (k07 (q1T _ _) (Nat.add_le_add_left (Hx.bl_p2 _) _)) (by omega)
theorem q6j{E F m:Nat}(mode:Nat)(h1:2<=E)(h2:E<=11)(h4:F<=52)(hm:m<2^(E+F)):Qb 2200 (q0D E F m mode).inner/\Qb 2200 (q0D E F m mode).outer/\Qb 2200 (wv E F m):=by
 obtain⟨l,n⟩:=q2W h1 h2 h4 hm;have g:=q5s (F:=F) (m:=m) h4;have k:bl (mgN F m+1)<=55:=q20 (mgN F m) 1 54 g (by decide);have a:Qb 2200 (wv E F m):=Qb.dq (by omega) (by omega);have i:Qb 2200 (after E F m):=by rw[q3b];exact Qb.dq (by omega) (by omega)
 have o:bl (2*mgN F m+1)<=60:=by have h1:=q1T 2 (mgN F m);have h2:bl 2=2:=rfl;have:=q20 (2*mgN F m) 1 57 (by omega) (by decide);omega
 have d:Qb 2200 ((wv E F m+after E F m)/2):=by rw[q1P,q2O];exact Qb.dq (by omega) (by omega)
 have b:Qb 2200 (before E F m)/\Qb 2200 ((before E F m+wv E F m)/2):=by
  rcases k01 m with h|h
  ·have e:before E F m=wv E F m:=by unfold before;rw[k0p h]
   have c:(wv E F m+wv E F m)/2=wv E F m:=by grind
   rw[e,c];exact⟨a,a⟩
  ·obtain⟨K,p,f,c,q,j⟩:=q1Y E F m h;have r:bl K<=54:=by have:=q0A c;omega
   refine⟨by rw[f];exact Qb.dq (by omega) (by omega),?_⟩;have:before E F m+wv E F m=dq (2*K+1) p:=by rw[j,f,q6y,<- q2F,<- q2F];congr 1;omega
   rw[this,q2O];refine Qb.dq ?_ (by omega);have h1:=q1T 2 K;have h2:bl 2=2:=rfl;have:=q20 (2*K) 1 57 (by omega) (by decide);omega
 unfold q0D;split
 ·exact⟨a,i,a⟩
 ·split
  ·exact⟨b.1,a,a⟩
  ·split
   ·exact⟨b.2,d,a⟩
   ·exact⟨b.2,d,a⟩
theorem q4h{E F b mode:Nat}(h1:2<=E)(h2:E<=11)(h4:F<=52):Qb 2200 (q0w E F b mode).lo/\Qb 2200 (q0w E F b mode).hi/\Qb 2200 (q2k E F b):=by
 obtain⟨a,d,c⟩:=q6j (E:=E) (F:=F) (m:=q0o E F b) (Go.Proofs.YtabcgemembkkcaaGreatDoor.Sh.seen mode (q1v E F b)) h1 h2 h4 (k0i _ (k0a _));unfold q0w q2k;cases h:q1v E F b<;>rw[h] at a d
 ·exact⟨a,d,c⟩
 ·exact⟨d.neg,a.neg,c.neg⟩
theorem qam(E F b mode:Nat)(w:qj)(h1:2<=E)(h2:E<=11)(h3:1<=F)(h4:F<=52)(hb:b<2^(1+E+F))(hf:q0c E F b≠2^E-1)(hmo:mode<=4)(hst:Std w):qh qd 22 #[fm E F,.int .u64 (b:Int),.int .u8 (mode:Int)] w (qe9 (q0w E F b mode) w):=by
 obtain⟨w0,e5⟩:=yx (((w.alloc (.cells #[.int .i64 (E:Int),.int .i64 (F:Int)] 23)).alloc (.cells #[.bool qa,.slice qe 0 0,.slice qe 0 0] 39)).alloc (.cells #[.bool qa,.slice qe 0 0,.slice qe 0 0] 39));have p:Cx w [(w.heap.size+1+1,39,[.bool qa,.slice qe 0 0,.slice qe 0 0]),(w.heap.size+1,39,[.bool qa,.slice qe 0 0,.slice qe 0 0]),(w.heap.size,23,[.int .i64 (E:Int),.int .i64 (F:Int)])] w0:=by rw[e5];exact(((Cx.nil w).new _ [_,_] rfl).new _ [_,_,_] (by simp)).new _ [_,_,_] (by simp)
 have b2:b<18446744073709551616:=k03 hb (k00 (by decide) (show 1+E+F<=64 by omega));have e9:q09 (E:Int) (F:Int) b=0:=q4R h1 h2 h3 h4 hb;have m5:q1a E (q0c E F b) (q0r F b)<=3:=q5I hf;have f0:∀w,qh qd 64 #[fm E F,.int .u64 (b:Int)] w fun e w'=>e=.returned (.tuple #[.int .u8 ((q1a E (q0c E F b) (q0r F b):Nat):Int),.int .i64 0])/\qf w.heap.size w w':=fun w=>q8G E F b w h1 h2 h3 h4 hb
 have m6:=vv fun g w' (k:One w' g b)=>q2d E F b g w' k e9 _ (k05.2 (by omega)) (by omega) f0 b2
 have m7:=vv fun g w' (k:One w' g b)=>q87 E F b g w' k e9 _ (k02 (by omega)) (by omega) f0 b2
 have e6:=vv fun w'=>qdn E F w' h2 h4
 have hm:q0o E F b<2^(E+F):=k0i _ (k0a _);have f1:b<2^(E+F+1):=by rw[show E+F+1=1+E+F by omega];exact hb
 have ha:=qbq (b:=b) (k:=E+F) (by omega) f1;have hn:=q6X (b:=b) (k:=E+F) (by omega) f1;have b7:Hid (∀w',qh qd 60 #[.int .u8 (mode:Int),.bool (q1v E F b)] w' fun e w''=>e=.returned (.int .u8 ((Go.Proofs.YtabcgemembkkcaaGreatDoor.Sh.seen mode (q1v E F b):Nat):Int))/\qf w'.heap.size w' w''):=vv fun w'=>(qdo mode (q1v E F b) w' hmo).mono fun e w'' ⟨k1,k2⟩=>⟨k1,k2 ▸ qc _ _⟩
 have b3:=vv fun w' (hst:Std w')=>qc9 E F (q0o E F b) (Go.Proofs.YtabcgemembkkcaaGreatDoor.Sh.seen mode (q1v E F b)) w' h1 h2 h3 h4 hm (by rw[q1M];exact hf) (q7v _ hmo) hst
 have l4:Hid (∀A n c N x q w',DQ w' A n c N x q->qh qd 25 #[q0q qa A n c x] w' (RvP q w')):=vv fun A n c N x q w' k=>(qan qa A n c N x q w' k (fun e=>absurd e (by decide))).mono fun e w'' h=>RvP.of h
 have hq:=q6j (E:=E) (F:=F) (m:=q0o E F b) (Go.Proofs.YtabcgemembkkcaaGreatDoor.Sh.seen mode (q1v E F b)) h1 h2 h4 hm;obtain⟨ng,b8⟩:=yx (q1v E F b);have c5:qb (2^(E+F)<=b)=ng:=b8.symm;rw[c5] at ha;obtain⟨m,f4⟩:∃y,y=q0o E F b:=⟨_,rfl⟩;have l5:b%2^(E+F)=m:=f4.symm;rw[l5] at hn;obtain⟨PW,l6⟩:=yx (2^(E+F));rw[<- l6] at ha hn e6;have l7:(bits .and .u64 (b:Int) (PW:Int) != 0)=ng:=by unfold bne;rw[ha,Bool.not_not]
 obtain⟨s,e7⟩:=yx (q0D E F (q0o E F b) (Go.Proofs.YtabcgemembkkcaaGreatDoor.Sh.seen mode (q1v E F b)));have f5:q0w E F b mode=if ng then⟨-s.outer,-s.inner,s.oi,s.ii⟩ else⟨s.inner,s.outer,s.ii,s.oi⟩:=by unfold q0w;rw[b8,e7]
 rw[<- e7,<- f4,<- b8] at b3;rw[<- e7] at hq;rw[<- b8] at b7;obtain⟨sm,l8⟩:=yx (Go.Proofs.YtabcgemembkkcaaGreatDoor.Sh.seen mode ng);rw[<- l8] at b3 b7;have l9:Hid (∀r q w',q=s.inner\/q=s.outer->RI w' r q->Std w'->qh qd 61 #[r.v] w' (RvP (-q) w')):=vv fun r q w' h k hs=>qdd r q w' k (h.elim (fun e=>by rw[e];exact hq.1.mono (by decide)) (fun e=>by rw[e];exact hq.2.1.mono (by decide))) hs
 obtain⟨sp,m0⟩:=yx (q0w E F b mode);rw[<- m0] at f5 ⊢;have b1:=vv f5;have o8:qb ((4:Int)<(mode:Int))=qa:=k02 (by omega);have b4:=vv hst;have a:=vv p;have HW:=vv e5;have m8:Hid (w.heap.size+1+1+1=w0.heap.size):=vv (by rw[e5];simp);clear e5 p hst e9 m5 f0 hm f1 b8 c5 f4 l5 l6 e7 f5 l8 hb hf hmo b2 hq m0;obtain⟨m9,n0,n4⟩:=Blk.f2 (a.o.get 2 rfl);go_enter func22,ntmps22;go_wp2_with fail;rw[<- HW.o,m8.o];obtain⟨g6,S⟩:=yx (w0.heap.size);obtain⟨w5,L⟩:=yx (w0.alloc (.cells #[.int .u64 (b:Int)] 24));have f:qf w0.heap.size w0 w5:=by rw[L];exact(qc _ _).alloc lr _
 have p:=a.o.new 24 [.int .u64 (b:Int)] S;rw[<- L] at p 
 try rw[<- L]
 try rw[<- S]
 replace a:=vv p;clear m9 n0 n4 L f p S;refine(m6.o _ _ ⟨(a.o.get 0 rfl).cell 0,(a.o.get 0 rfl).lt⟩).mono ?_;rintro e w4 ⟨rfl,f⟩;replace a:=vv (a.o.step f);clear f;obtain⟨n5,n6,n7⟩:=Blk.f2 (a.o.get 3 rfl);go_wp2_with fail;obtain⟨n8,S⟩:=yx (w4.heap.size);obtain⟨n9,L⟩:=yx (w4.alloc (.cells #[.int .u64 (b:Int)] 24));have f:qf w4.heap.size w4 n9:=by rw[L];exact(qc _ _).alloc lr _
 have p:=a.o.new 24 [.int .u64 (b:Int)] S;rw[<- L] at p 
 try rw[<- L]
 try rw[<- S]
 replace a:=vv p;clear n5 n6 n7 L f p S;refine(m7.o _ _ ⟨(a.o.get 0 rfl).cell 0,(a.o.get 0 rfl).lt⟩).mono ?_;rintro e o9 ⟨rfl,f⟩;replace a:=vv (a.o.step f);clear f;obtain⟨g1,g2,g3⟩:=Blk.f2 (a.o.get 4 rfl);go_wp2_with fail;refine(e6.o _).mono ?_;rintro e f6 ⟨rfl,f⟩;replace a:=vv (a.o.step f);clear g1 g2 g3 f;go_upto_region 9 with fail
 try rw[l7]
 clear ha l7;go_cut [10,12] (fun s10 s12 wx=>∃(t:Nat) (U:Option Addr) (n1 c1 N1:Nat) (V:Int) (W:Option Addr) (Z c2 N2:Nat) (x2:Int),s10=.int .i64 0/\s12=.pointer (qg ⟨t,0,qe⟩)/\Cx w [(t,106,[.bool qa,.slice U n1 c1,.int .i64 V,.bool qa,.slice W Z c2,.int .i64 x2,.bool s.ii,.bool s.oi]),(n8,24,[.int .u64 (b:Int)]),(g6,24,[.int .u64 (b:Int)]),(w.heap.size+1+1,39,[.bool qa,.slice qe 0 0,.slice qe 0 0]),(w.heap.size+1,39,[.bool qa,.slice qe 0 0,.slice qe 0 0]),(w.heap.size,23,[.int .i64 (E:Int),.int .i64 (F:Int)])] wx/\DQ wx U n1 c1 N1 V s.inner/\DQ wx W Z c2 N2 x2 s.outer)
 case first =>
  go_wp2_with fail;obtain⟨a3,a4,g4⟩:=Blk.f2 (a.o.get 4 rfl);refine q02 (fun w'=>w'.cell? ⟨w.heap.size,0,qe⟩=qg (.int .i64 (E:Int))/\w'.cell? ⟨w.heap.size,1,qe⟩=qg (.int .i64 (F:Int))) 14
   (.still 0 (.still 1 (.still 2 (.still 5 (.still 6 (.two 3 (.still 4 (.two 7 (.two 8 (.still 9 (.still 10 (.still 11 (.one 12 (.one 13 .done))))) 12 (.one 8 (.still 9 (.still 10 (.still 11 (.one 13 .done)))))) 12 (.one 7 (.one 8 (.still 9 (.still 10 (.still 11 (.one 13 .done)))))))) 12 (.one 3 (.still 4 (.one 7 (.one 8 (.still 9 (.still 10 (.still 11 (.one 13 .done)))))))))))))) ⟨a3,a4⟩ (fun b9=>?_)
  iterate 5
   refine q03 ?_
  clear g4 a3 a4;obtain⟨b5,T⟩:=yx (f6.drew);have f:qf f6.heap.size f6 b5:=by rw[T];exact q05 (qc _ _)
  replace a:=vv (a.o.step f);rw[<- T] at b9 ⊢;clear T f;refine q0e rfl (by rfl) rfl (by rfl) (fun K hK=>?_) (fun K hK=>?_)
  focus
   go_simp;refine(e6.o b5).mono ?_;rintro e c0 ⟨rfl,f⟩;replace a:=vv (a.o.step f);clear f;go_wp2_with fail;refine hK.out _ _ (Blk.c2 (a.o.get 4 rfl)) (fun H=>?_);clear hK
   iterate 1
    refine q03 ?_
   refine q0e rfl (by rfl) rfl (by rfl) (fun K hK=>?_) (fun K hK=>?_)
   focus
    go_simp;refine(b7.o c0).mono ?_;rintro e c4 ⟨rfl,f⟩;replace a:=vv (a.o.step f);clear f;go_wp2_with fail;refine hK.out _ _ (Blk.c2 (a.o.get 4 rfl)) (fun H=>?_);clear hK;refine q0e rfl (by rfl) rfl (by rfl) (fun K hK=>?_) (fun K hK=>?_)
    focus
     go_simp;refine(b3.o c4 (a.o.std b4.o)).mono ?_;rintro e e8 ⟨U,n1,c1,N1,V,W,Z,c2,N2,x2,rfl,M,O,f⟩;replace a:=vv (a.o.step f);have Q:=vv M;have I:=vv O;clear f M O;go_wp2_with fail;refine hK.out _ _ (Blk.c2 (a.o.get 4 rfl)) (fun H=>?_);clear hK
     iterate 3
      refine q03 ?_
     refine q01 rfl (by rfl) (fun K hK=>?_);go_simp;obtain⟨t,J⟩:=yx (e8.heap.size);obtain⟨m1,G⟩:=yx (e8.alloc (.cells #[.bool qa,.slice qe 0 0,.int .i64 0,.bool qa,.slice qe 0 0,.int .i64 0,.bool qa,.bool qa] 106));have f:qf e8.heap.size e8 m1:=by rw[G];exact(qc _ _).alloc lr _
     have p:=a.o.new 106 [.bool qa,.slice qe 0 0,.int .i64 0,.bool qa,.slice qe 0 0,.int .i64 0,.bool qa,.bool qa] J;rw[<- G] at p
     try rw[<- G]
     try rw[<- J]
     replace a:=vv p;replace Q:=vv (Q.o.below f);replace I:=vv (I.o.below f);clear f p G J;refine hK.out _ _ (Blk.c2 (a.o.get 5 rfl)) (fun H=>?_);clear hK;obtain⟨wz,hz⟩:=yx (m1);subst hz
    rotate_left 1
    focus
     go_simp;obtain⟨t,J⟩:=yx (c4.heap.size);obtain⟨m2,G⟩:=yx (c4.alloc (.cells #[.bool qa,.slice qe 0 0,.int .i64 0,.bool qa,.slice qe 0 0,.int .i64 0,.bool qa,.bool qa] 106));have f:qf c4.heap.size c4 m2:=by rw[G];exact(qc _ _).alloc lr _
     have p:=a.o.new 106 [.bool qa,.slice qe 0 0,.int .i64 0,.bool qa,.slice qe 0 0,.int .i64 0,.bool qa,.bool qa] J;rw[<- G] at p
     try rw[<- G]
     try rw[<- J]
     replace a:=vv p;clear f p G J;refine hK.out _ _ (Blk.c2 (a.o.get 5 rfl)) (fun H=>?_);clear hK;refine q01 rfl (by rfl) (fun K hK=>?_);go_simp;refine(b3.o m2 (a.o.std b4.o)).mono ?_;rintro e b6 ⟨U,n1,c1,N1,V,W,Z,c2,N2,x2,rfl,M,O,f⟩;replace a:=vv (a.o.step f);have Q:=vv M;have I:=vv O;clear f M O;go_wp2_with fail;refine hK.out _ _ (Blk.c2 (a.o.get 5 rfl)) (fun H=>?_);clear hK
     iterate 3
      refine q03 ?_
     obtain⟨wz,hz⟩:=yx (b6);subst hz
   rotate_left 2
   focus
    go_simp;obtain⟨t,J⟩:=yx (c0.heap.size);obtain⟨m3,G⟩:=yx (c0.alloc (.cells #[.bool qa,.slice qe 0 0,.int .i64 0,.bool qa,.slice qe 0 0,.int .i64 0,.bool qa,.bool qa] 106));have f:qf c0.heap.size c0 m3:=by rw[G];exact(qc _ _).alloc lr _
    have p:=a.o.new 106 [.bool qa,.slice qe 0 0,.int .i64 0,.bool qa,.slice qe 0 0,.int .i64 0,.bool qa,.bool qa] J;rw[<- G] at p
    try rw[<- G]
    try rw[<- J]
    replace a:=vv p;clear f p G J;refine hK.out _ _ (Blk.c2 (a.o.get 5 rfl)) (fun H=>?_);clear hK;refine q01 rfl (by rfl) (fun K hK=>?_);go_simp;refine(b7.o m3).mono ?_;rintro e o0 ⟨rfl,f⟩;replace a:=vv (a.o.step f);clear f;go_wp2_with fail;refine hK.out _ _ (Blk.c2 (a.o.get 5 rfl)) (fun H=>?_);clear hK;refine q01 rfl (by rfl) (fun K hK=>?_);go_simp;refine(b3.o o0 (a.o.std b4.o)).mono ?_;rintro e o1 ⟨U,n1,c1,N1,V,W,Z,c2,N2,x2,rfl,M,O,f⟩;replace a:=vv (a.o.step f);have Q:=vv M;have I:=vv O;clear f M O;go_wp2_with fail;refine hK.out _ _ (Blk.c2 (a.o.get 5 rfl)) (fun H=>?_);clear hK
    iterate 3
     refine q03 ?_
    obtain⟨wz,hz⟩:=yx (o1);subst hz
  rotate_left 3
  focus
   go_simp;obtain⟨t,J⟩:=yx (b5.heap.size);obtain⟨m4,G⟩:=yx (b5.alloc (.cells #[.bool qa,.slice qe 0 0,.int .i64 0,.bool qa,.slice qe 0 0,.int .i64 0,.bool qa,.bool qa] 106));have f:qf b5.heap.size b5 m4:=by rw[G];exact(qc _ _).alloc lr _
   have p:=a.o.new 106 [.bool qa,.slice qe 0 0,.int .i64 0,.bool qa,.slice qe 0 0,.int .i64 0,.bool qa,.bool qa] J;rw[<- G] at p
   try rw[<- G]
   try rw[<- J]
   replace a:=vv p;clear f p G J;refine hK.out _ _ (Blk.c2 (a.o.get 5 rfl)) (fun H=>?_);clear hK;refine q01 rfl (by rfl) (fun K hK=>?_);go_simp;refine(e6.o m4).mono ?_;rintro e o2 ⟨rfl,f⟩;replace a:=vv (a.o.step f);clear f;go_wp2_with fail;refine hK.out _ _ (Blk.c2 (a.o.get 5 rfl)) (fun H=>?_);clear hK
   iterate 1
    refine q03 ?_
   refine q01 rfl (by rfl) (fun K hK=>?_);go_simp;refine(b7.o o2).mono ?_;rintro e o3 ⟨rfl,f⟩;replace a:=vv (a.o.step f);clear f;go_wp2_with fail;refine hK.out _ _ (Blk.c2 (a.o.get 5 rfl)) (fun H=>?_);clear hK;refine q01 rfl (by rfl) (fun K hK=>?_);go_simp;refine(b3.o o3 (a.o.std b4.o)).mono ?_;rintro e o4 ⟨U,n1,c1,N1,V,W,Z,c2,N2,x2,rfl,M,O,f⟩;replace a:=vv (a.o.step f);have Q:=vv M;have I:=vv O;clear f M O;go_wp2_with fail;refine hK.out _ _ (Blk.c2 (a.o.get 5 rfl)) (fun H=>?_);clear hK
   iterate 3
    refine q03 ?_
   obtain⟨wz,hz⟩:=yx (o4);subst hz
  all_goals
   refine q01 rfl (by rfl) (fun K hK=>?_);have i:=vv (a.o.get 0 rfl)
   with_reducible refine q0b 106 (.tmp 12) (.tmp 53) rfl t [.bool qa,.slice U n1 c1,.int .i64 V,.bool qa,.slice W Z c2,.int .i64 x2,.bool s.ii,.bool s.oi] rfl rfl 106 _ i.o (by kernel_rfl) rfl rfl ?_
   intro p0 u j;replace a:=vv (a.o.put 0 rfl u j);replace Q:=vv (Q.o.apart_ i.o rfl j);replace I:=vv (I.o.apart_ i.o rfl j);clear i u j;refine hK.out _ _ (Blk.c2 (a.o.get 5 rfl)) (fun H=>?_);clear hK;refine q08 ?_;simp only[k0o,k0w];go_wp2_with fail;go_meet;exact⟨t,U,n1,c1,N1,V,W,Z,c2,N2,x2,rfl,rfl,a.o,Q.o,I.o⟩
 case rest =>
  obtain⟨t,U,n1,c1,N1,V,W,Z,c2,N2,x2,rfl,rfl,p,M,O⟩:=hcut;replace a:=vv p;have Q:=vv M;have I:=vv O;clear p M O;obtain⟨a3,a4,g5,g7,g8,g9,i0,i1,i2⟩:=Blk.f8 (a.o.get 0 rfl);go_wp2_with fail;refine(l4.o _ _ _ _ _ _ _ Q.o).mono ?_;rintro e b6 ⟨l,rfl,hI,f⟩;replace a:=vv (a.o.step f);replace Q:=vv (Q.o.below f);replace I:=vv (I.o.below f);have D:=vv hI;clear a3 a4 g5 g7 g8 g9 i0 i1 i2 f hI;obtain⟨i3,i4,i5,i6,i7,i8,i9,j0,j1⟩:=Blk.f8 (a.o.get 0 rfl);go_wp2_with fail;obtain⟨f7,S⟩:=yx (b6.heap.size);obtain⟨o5,L⟩:=yx (b6.alloc (.cells #[.bool l.b,.slice l.X l.n l.c,.slice l.Y l.m l.d] 39));have f:qf b6.heap.size b6 o5:=by rw[L];exact(qc _ _).alloc lr _
  have p:=a.o.new 39 [.bool l.b,.slice l.X l.n l.c,.slice l.Y l.m l.d] S;rw[<- L] at p 
  try rw[<- L]
  try rw[<- S]
  replace a:=vv p;replace I:=vv (I.o.below f);replace D:=vv (D.o.below f);clear i3 i4 i5 i6 i7 i8 i9 j0 j1 L f p S;refine(l4.o _ _ _ _ _ _ _ I.o).mono ?_;rintro e p1 ⟨h,rfl,hI,f⟩;replace a:=vv (a.o.step f);replace I:=vv (I.o.below f);replace D:=vv (D.o.below f);have R:=vv hI;clear f hI;have i:=vv (a.o.get 4 rfl);go_wp2_with (with_reducible refine q00 rfl 39 (.tmp 7) (.tmp 72) rfl (w.heap.size+1+1) [.bool h.b,.slice h.X h.n h.c,.slice h.Y h.m h.d] rfl rfl 39 _ i.o (by kernel_rfl) rfl rfl ?_);intro f9 u j;clear i;have i:=vv (a.o.get 4 rfl);replace a:=vv (a.o.put 4 rfl u j);replace D:=vv (D.o.apart_ i.o rfl j);replace R:=vv (R.o.apart_ i.o rfl j);clear i u j;go_upto_if 80 with fail;cases ng
  case false =>
   replace b1:Hid (sp=⟨s.inner,s.outer,s.ii,s.oi⟩):=b1;go_wp2_with fail;obtain⟨a5,a6,a7⟩:=Blk.c3 (a.o.get 0 rfl);obtain⟨c6,c7,c9⟩:=Blk.c3 (a.o.get 4 rfl);obtain⟨a8,a9,b0,d0,d1,d2,a0,a1⟩:=Blk.c8 (a.o.get 1 rfl);have j2:=(a.o.get 0 rfl).lt;have j3:=(a.o.get 4 rfl).lt;have j4:=(a.o.get 1 rfl).lt;refine q02 (fun w'=>w'.cell? ⟨f7,0,qe⟩=qg (.bool l.b)/\w'.cell? ⟨f7,1,qe⟩=qg (.slice l.X l.n l.c)/\w'.cell? ⟨f7,2,qe⟩=qg (.slice l.Y l.m l.d)/\w'.cell? ⟨(w.heap.size+1+1),0,qe⟩=qg (.bool h.b)/\w'.cell? ⟨(w.heap.size+1+1),1,qe⟩=qg (.slice h.X h.n h.c)/\w'.cell? ⟨(w.heap.size+1+1),2,qe⟩=qg (.slice h.Y h.m h.d)/\w'.cell? ⟨t,0,qe⟩=qg (.bool qa)/\w'.cell? ⟨t,1,qe⟩=qg (.slice U n1 c1)/\w'.cell? ⟨t,2,qe⟩=qg (.int .i64 V)/\w'.cell? ⟨t,3,qe⟩=qg (.bool qa)/\w'.cell? ⟨t,4,qe⟩=qg (.slice W Z c2)/\w'.cell? ⟨t,5,qe⟩=qg (.int .i64 x2)/\w'.cell? ⟨t,6,qe⟩=qg (.bool s.ii)/\w'.cell? ⟨t,7,qe⟩=qg (.bool s.oi)) 11
    (.still 0 (.still 1 (.still 2 (.still 3 (.still 4 (.still 5 (.one 6 (.one 7 (.still 8 (.still 9 (.still 10 .done))))))))))) ⟨a5,a6,a7,c6,c7,c9,a8,a9,b0,d0,d1,d2,a0,a1⟩ (fun b9=>?_)
   iterate 6
    refine q03 ?_
   clear j2 j3 j4 a5 a6 a7 c6 c7 c9 a8 a9 b0 d0 d1 d2 a0 a1;obtain⟨o6,T⟩:=yx (f9.drew);have f:qf f9.heap.size f9 o6:=by rw[T];exact q05 (qc _ _)
   replace a:=vv (a.o.step f);replace D:=vv (D.o.below f);replace R:=vv (R.o.below f);rw[<- T] at b9 ⊢;clear T f;refine q01 rfl (by rfl) (fun K hK=>?_);have i:=vv (a.o.get 5 rfl)
   with_reducible refine q0b 39 (.tmp 6) (.tmp 81) rfl (w.heap.size+1) [.bool l.b,.slice l.X l.n l.c,.slice l.Y l.m l.d] rfl rfl 39 _ i.o (by kernel_rfl) rfl rfl ?_
   intro p2 u j;replace a:=vv (a.o.put 5 rfl u j);replace D:=vv (D.o.apart_ i.o rfl j);replace R:=vv (R.o.apart_ i.o rfl j);clear i u j;refine hK.out _ _ (Blk.n3 (a.o.get 0 rfl) (Blk.n3 (a.o.get 4 rfl) (Blk.c8 (a.o.get 1 rfl)))) (fun H=>?_);clear hK;refine q01 rfl (by rfl) (fun K hK=>?_);have i:=vv (a.o.get 4 rfl)
   with_reducible refine q0b 39 (.tmp 7) (.tmp 82) rfl (w.heap.size+1+1) [.bool h.b,.slice h.X h.n h.c,.slice h.Y h.m h.d] rfl rfl 39 _ i.o (by kernel_rfl) rfl rfl ?_
   intro p3 u j;replace a:=vv (a.o.put 4 rfl u j);replace D:=vv (D.o.apart_ i.o rfl j);replace R:=vv (R.o.apart_ i.o rfl j);clear i u j;refine hK.out _ _ (Blk.n3 (a.o.get 0 rfl) (Blk.n3 (a.o.get 4 rfl) (Blk.c8 (a.o.get 1 rfl)))) (fun H=>?_);clear hK
   iterate 3
    refine q03 ?_
   refine q0T rfl ?_;go_wp2;obtain⟨j5,j6,j7⟩:=Blk.c3 (a.o.get 5 rfl);obtain⟨j8,j9,k0⟩:=Blk.c3 (a.o.get 4 rfl);exact qi (v:=.tuple #[l.v,h.v,.bool s.ii,.bool s.oi,.int .i64 0]) (by simp [results,results22,go_sem,j5,j6,j7,j8,j9,k0]) rfl ⟨l,h,by rw[b1.o],by rw[b1.o];exact⟨D.o,R.o⟩,a.o.low⟩
  case true =>
   replace b1:Hid (sp=⟨-s.outer,-s.inner,s.oi,s.ii⟩):=b1;obtain⟨a5,a6,a7,k3⟩:=Blk.f3 (a.o.get 4 rfl);go_wp2_with fail;refine(l9.o _ _ _ (.inr rfl) R.o (a.o.std b4.o)).mono ?_;rintro e p4 ⟨z,rfl,hI,f⟩;replace a:=vv (a.o.step f);replace D:=vv (D.o.below f);replace R:=vv (R.o.below f);have P:=vv hI;clear a5 a6 a7 k3 f hI;have i:=vv (a.o.get 5 rfl);go_wp2_with (with_reducible refine q00 rfl 39 (.tmp 6) (.tmp 90) rfl (w.heap.size+1) [.bool z.b,.slice z.X z.n z.c,.slice z.Y z.m z.d] rfl rfl 39 _ i.o (by kernel_rfl) rfl rfl ?_);intro p5 u j;clear i;have i:=vv (a.o.get 5 rfl);replace a:=vv (a.o.put 5 rfl u j);replace D:=vv (D.o.apart_ i.o rfl j);replace P:=vv (P.o.apart_ i.o rfl j);clear i u j;obtain⟨a8,a9,b0,k4⟩:=Blk.f3 (a.o.get 0 rfl);go_wp2_with fail;refine(l9.o _ _ _ (.inl rfl) D.o (a.o.std b4.o)).mono ?_;rintro e p6 ⟨C,rfl,hI,f⟩;replace a:=vv (a.o.step f);replace D:=vv (D.o.below f);replace P:=vv (P.o.below f);have a2:=vv hI;clear a8 a9 b0 k4 f hI;have i:=vv (a.o.get 4 rfl);go_wp2_with (with_reducible refine q00 rfl 39 (.tmp 7) (.tmp 95) rfl (w.heap.size+1+1) [.bool C.b,.slice C.X C.n C.c,.slice C.Y C.m C.d] rfl rfl 39 _ i.o (by kernel_rfl) rfl rfl ?_);intro g0 u j;clear i;have i:=vv (a.o.get 4 rfl);replace a:=vv (a.o.put 4 rfl u j);replace P:=vv (P.o.apart_ i.o rfl j);replace a2:=vv (a2.o.apart_ i.o rfl j);clear i u j;go_wp2_with fail;obtain⟨a0,a1,d3⟩:=Blk.c3 (a.o.get 5 rfl);obtain⟨d4,d5,d6⟩:=Blk.c3 (a.o.get 4 rfl);obtain⟨d7,d8,d9,e0,e1,e2,e3,e4⟩:=Blk.c8 (a.o.get 1 rfl);have k5:=(a.o.get 5 rfl).lt;have k6:=(a.o.get 4 rfl).lt;have k7:=(a.o.get 1 rfl).lt;refine q02 (fun w'=>w'.cell? ⟨(w.heap.size+1),0,qe⟩=qg (.bool z.b)/\w'.cell? ⟨(w.heap.size+1),1,qe⟩=qg (.slice z.X z.n z.c)/\w'.cell? ⟨(w.heap.size+1),2,qe⟩=qg (.slice z.Y z.m z.d)/\w'.cell? ⟨(w.heap.size+1+1),0,qe⟩=qg (.bool C.b)/\w'.cell? ⟨(w.heap.size+1+1),1,qe⟩=qg (.slice C.X C.n C.c)/\w'.cell? ⟨(w.heap.size+1+1),2,qe⟩=qg (.slice C.Y C.m C.d)/\w'.cell? ⟨t,0,qe⟩=qg (.bool qa)/\w'.cell? ⟨t,1,qe⟩=qg (.slice U n1 c1)/\w'.cell? ⟨t,2,qe⟩=qg (.int .i64 V)/\w'.cell? ⟨t,3,qe⟩=qg (.bool qa)/\w'.cell? ⟨t,4,qe⟩=qg (.slice W Z c2)/\w'.cell? ⟨t,5,qe⟩=qg (.int .i64 x2)/\w'.cell? ⟨t,6,qe⟩=qg (.bool s.ii)/\w'.cell? ⟨t,7,qe⟩=qg (.bool s.oi)) 11
    (.still 0 (.still 1 (.still 2 (.still 3 (.still 4 (.still 5 (.one 6 (.one 7 (.still 8 (.still 9 (.still 10 .done))))))))))) ⟨a0,a1,d3,d4,d5,d6,d7,d8,d9,e0,e1,e2,e3,e4⟩ (fun b9=>?_)
   iterate 6
    refine q03 ?_
   clear k5 k6 k7 a0 a1 d3 d4 d5 d6 d7 d8 d9 e0 e1 e2 e3 e4;obtain⟨o7,T⟩:=yx (g0.drew);have f:qf g0.heap.size g0 o7:=by rw[T];exact q05 (qc _ _)
   replace a:=vv (a.o.step f);replace P:=vv (P.o.below f);replace a2:=vv (a2.o.below f);rw[<- T] at b9 ⊢;clear T f;refine q01 rfl (by rfl) (fun K hK=>?_);have i:=vv (a.o.get 5 rfl)
   with_reducible refine q0b 39 (.tmp 6) (.tmp 97) rfl (w.heap.size+1) [.bool z.b,.slice z.X z.n z.c,.slice z.Y z.m z.d] rfl rfl 39 _ i.o (by kernel_rfl) rfl rfl ?_
   intro p7 u j;replace a:=vv (a.o.put 5 rfl u j);replace P:=vv (P.o.apart_ i.o rfl j);replace a2:=vv (a2.o.apart_ i.o rfl j);clear i u j;refine hK.out _ _ (Blk.n3 (a.o.get 5 rfl) (Blk.n3 (a.o.get 4 rfl) (Blk.c8 (a.o.get 1 rfl)))) (fun H=>?_);clear hK;refine q01 rfl (by rfl) (fun K hK=>?_);have i:=vv (a.o.get 4 rfl)
   with_reducible refine q0b 39 (.tmp 7) (.tmp 98) rfl (w.heap.size+1+1) [.bool C.b,.slice C.X C.n C.c,.slice C.Y C.m C.d] rfl rfl 39 _ i.o (by kernel_rfl) rfl rfl ?_
   intro p8 u j;replace a:=vv (a.o.put 4 rfl u j);replace P:=vv (P.o.apart_ i.o rfl j);replace a2:=vv (a2.o.apart_ i.o rfl j);clear i u j;refine hK.out _ _ (Blk.n3 (a.o.get 5 rfl) (Blk.n3 (a.o.get 4 rfl) (Blk.c8 (a.o.get 1 rfl)))) (fun H=>?_);clear hK
   iterate 3
    refine q03 ?_
   refine q0T rfl ?_;go_wp2;obtain⟨k8,k9,l0⟩:=Blk.c3 (a.o.get 5 rfl);obtain⟨l1,l2,l3⟩:=Blk.c3 (a.o.get 4 rfl);exact qi (v:=.tuple #[z.v,C.v,.bool s.oi,.bool s.ii,.int .i64 0]) (by simp [results,results22,go_sem,k8,k9,l0,l1,l2,l3]) rfl ⟨z,C,by rw[b1.o],by rw[b1.o];exact⟨P.o,a2.o⟩,a.o.low⟩
end Nea
namespace R4
open Go Go.RowKit R5 Scn Sh Fms Exa Nea
theorem qd1(E F b:Nat)(w:qj)(h1:2<=E)(h2:E<=11)(h3:1<=F)(h4:F<=52)(hb:b<2^(1+E+F)):qh qd 237 #[fm E F,.int .u64 (b:Int)] w fun e w'=>e=.returned (.int .i64 0)/\qf w.heap.size w w':=by
 have a:qb ((E:Int)<2)=qa:=k02 (by omega);have c:qb ((11:Int)<(E:Int))=qa:=k02 (by omega);have d:qb ((F:Int)<1)=qa:=k02 (by omega);have f:qb ((52:Int)<(F:Int))=qa:=k02 (by omega);have g:¬E<2:=by omega
 have h:¬11<E:=by omega
 have i:¬F<1:=by omega
 have j:¬52<F:=by omega
 have k:(b:Int)/2^(1+E+F)=0:=by rw[q1m,k0K hb];rfl
 have l:(E:Int)<=11:=by omega
 have m:(F:Int)<=52:=by omega
 clear h1 h2 h3 h4 hb;go_enter func237,ntmps237;go_wp2;all_goals
  go_ret;exact⟨rfl,(qc _ _).alloc lr _⟩
theorem q43(n:Nat)(h:n<=63):IntKind.u64.wrap ((2:Int)^n)=((2^n:Nat):Int):=by
 have e:((2:Int)^n)=((2^n:Nat):Int):=by rw[k0C];rfl
 have a:2^n<=9223372036854775808:=k07 (k00 (by decide) h) (by decide);rw[e,qk];generalize 2^n=P at *
 omega
theorem qby(E F b:Nat)(w:qj)(h1:2<=E)(h2:E<=11)(h3:1<=F)(h4:F<=52)(hb:b<2^(1+E+F)):qh qd 238 #[fm E F,.int .u64 (b:Int)] w fun e w'=>e=.returned (.tuple #[.bool (q0M E F b),.int .i64 ((q0c E F b:Nat):Int),.int .u64 ((q0r F b:Nat):Int)])/\qf w.heap.size w w':=by
 have C:(E:Int)<=11:=by omega
 have D:(F:Int)<=52:=by omega
 have r:((b:Int)/2^(E+F)==1)=q0M E F b:=by
  unfold q0M;have G:b/2^(E+F)<2:=k0s (by rw[show(2:Nat)^(E+F)*2=2^(1+E+F) by rw[show 1+E+F=E+F+1 by omega,k0d]];exact hb);rw[q1m,show F+E=E+F by omega];generalize b/2^(E+F)=z at *
  rcases(by omega:z=0\/z=1) with h|h<;>rw[h]<;>rfl
 have s:=q43 F (by omega);have t:=q43 E (by omega);have m:=k0a F;have p2:=k0a E;have n:2^F<=4503599627370496:=k07 (k00 (by decide) h4) (by decide);have o:2^E<=2048:=k07 (k00 (by decide) h2) (by decide);have f1:(b:Int).tmod ((2^F:Nat):Int)=((q0r F b:Nat):Int):=by rw[k0Q (by omega)];rfl
 have i:((b/2^F:Nat):Int)=(b:Int)/2^F:=(q1m b F).symm;obtain⟨y,a⟩:=yx (b/2^F);have f2:(y:Int).tmod ((2^E:Nat):Int)=((q0c E F b:Nat):Int):=by rw[k0Q (by omega),a];rfl
 rw[<- a] at i;have u:(b:Int)/2^F=(y:Int):=i.symm;have f3:(b:Int)%((2^F:Nat):Int)=((q0r F b:Nat):Int):=rfl;have f4:(y:Int)%((2^E:Nat):Int)=((q0c E F b:Nat):Int):=by rw[a];rfl
 have j:q0c E F b<=2047:=by have:q0c E F b<2^E:=k0i _ p2;omega
 obtain⟨H,c⟩:=yx (q0M E F b);obtain⟨x,d⟩:=yx (q0c E F b);obtain⟨f,g⟩:=yx (q0r F b);rw[<- g] at f1 f3;rw[<- d] at f2 f4 j;rw[<- c] at r;rw[<- c,<- d,<- g];obtain⟨p,k⟩:=yx (2^F);obtain⟨q,l⟩:=yx (2^E);rw[<- k] at s m n f1 f3;rw[<- l] at t p2 o f2 f4;have I:((p:Int)==0)=qa:=by rw[k05];omega
 have J:((q:Int)==0)=qa:=by rw[k05];omega
 have K:¬p=0:=by omega
 have L:¬q=0:=by omega
 have v:(x:Int)<=2047:=by omega
 clear h1 h2 h3 h4 hb c d g k l i a m p2 n o j;go_enter func238,ntmps238;go_wp2;go_ret3;exact⟨rfl,(qc _ _).alloc lr _⟩
theorem qdU(E:Nat)(F:Int)(w:qj)(h1:2<=E)(h2:E<=11):qh qd 241 #[fm E F] w fun e w'=>e=.returned (.int .i64 (((2^(E-1):Nat):Int)-1))/\qf w.heap.size w w':=by
 obtain⟨e,rfl⟩:∃e,E=e+1:=⟨E-1,by omega⟩;rw[k0T];have h:(e:Int)<=10:=by omega
 have d:2^e<=1024:=k07 (k00 (by decide) (show e<=10 by omega)) (by decide);have b:((2:Int)^e)=((2^e:Nat):Int):=by rw[k0C];rfl
 have c:=k0a e;have a:wrap64 ((2:Int)^e)=((2^e:Nat):Int):=by
  rw[b];generalize 2^e=P at *
  unfold wrap64;omega
 obtain⟨P,f⟩:=yx (2^e);rw[<- f] at a d c ⊢;have g:Hid (wrap64 (wrap64 ((2:Int)^e)-1)=(P:Int)-1):=vv (by rw[a];unfold wrap64;omega);clear f b h1 h2 a c d;go_enter func241,ntmps241;go_wp2;go_ret;exact⟨q0X g.o,(qc _ _).alloc lr _⟩
def DGB(ng:Bool)(q:Rat)(w:qj)(e:Ending)(w':qj):Prop:=
 ∃b A n c N x,e=.returned (.tuple #[q0q b A n c x,.int .i64 0])/\b=(ng && qb (0<N))/\DQ w' A n c N x q/\qf w.heap.size w w'
theorem DGP.b{ng:Bool}{q:Rat}{w:qj}{e:Ending}{w':qj}(h:DGP ng q w e w'):DGB ng q w e w':=by obtain⟨A,n,c,N,x,a,d,f⟩:=h;exact⟨_,A,n,c,N,x,a,rfl,d,f⟩
theorem q67(E F b:Nat):q0o E F b%2^F=q0r F b:=by unfold q0o q0r;exact k2R _ (by rw[k0e];exact⟨2^E,k0g _ _⟩)
theorem q8L(E:Nat)(h2:E<=11):wrap64 (wrap64 ((2:Int)^E)-1)=((2^E-1:Nat):Int)/\2^E<=2048/\1<=2^E:=by
 have e:((2:Int)^E)=((2^E:Nat):Int):=by rw[k0C];rfl
 have p:2^E<=2048:=k07 (k00 (by decide) h2) (by decide);have a:=k0a E;rw[e];generalize 2^E=P at *
 refine⟨?_,p,a⟩;unfold wrap64;omega
theorem qcT(E F b:Nat)(w:qj)(h1:2<=E)(h2:E<=11)(h3:1<=F)(h4:F<=52)(hb:b<2^(1+E+F))(hf:q0c E F b≠2^E-1):qh qd 148 #[fm E F,.int .u64 (b:Int)] w (DGP (q0M E F b) (wv E F (q0o E F b)) w):=by
 have hm:q0o E F b<2^(E+F):=k0i _ (k0a _);obtain⟨b1,b2⟩:=q2W h1 h2 h4 hm;have d6:=q5s (F:=F) (m:=q0o E F b) h4;have b3:=q3p F (q0o E F b);have p3:2^(F+1)<=9007199254740992:=k07 (k00 (by decide) (show F+1<=53 by omega)) (by decide);have L:q0c E F b=0->mgN F (q0o E F b)=q0r F b:=fun e=>by unfold mgN Go.Proofs.YtabcgemembkkcaaGreatDoor.Exa.mantOf;rw[q1M,q67,k0p e]
 have I:q0c E F b≠0->mgN F (q0o E F b)=2^F+q0r F b:=fun e=>by unfold mgN Go.Proofs.YtabcgemembkkcaaGreatDoor.Exa.mantOf;rw[q1M,q67,k0r e];omega
 have l:q0c E F b=0->mgX E F (q0o E F b)=1-(((2^(E-1):Nat):Int)-1)-(F:Int):=fun e=>by unfold mgX Go.Proofs.YtabcgemembkkcaaGreatDoor.Exa.powOf;rw[q1M,k0p e];omega
 have p:q0c E F b≠0->mgX E F (q0o E F b)=((q0c E F b:Nat):Int)-(((2^(E-1):Nat):Int)-1)-(F:Int):=fun e=>by unfold mgX Go.Proofs.YtabcgemembkkcaaGreatDoor.Exa.powOf;rw[q1M,k0r e];omega
 have b4:q0c E F b<=2047:=by have:q0c E F b<2^E:=k0i _ (k0a E);have:=k00 (n:=2) (by decide) h2;omega
 have d7:=q43 F (by omega);have Z:=q8L E h2;have b5:2^(E-1)<=1024:=k07 (k00 (by decide) (show E-1<=10 by omega)) (by decide);have hE:(E:Int)<=11:=by omega
 have hF:(F:Int)<=52:=by omega
 have d8:=vv fun w'=>qd1 E F b w' h1 h2 h3 h4 hb
 have b6:=vv fun w'=>qby E F b w' h1 h2 h3 h4 hb
 have a6:=vv fun w'=>qdU E (F:Int) w' h1 h2
 have b7:=vv fun w'=>R1.Of (mgN F (q0o E F b)) w' (by omega)
 have J:=vv fun A n c w' (k:RN w' A n c (mgN F (q0o E F b)))=>(q9T (q0M E F b) A n c (mgN F (q0o E F b)) (mgX E F (q0o E F b)) w' k.r (k07 (Rtp.rd_le (k:=3) k.r (by omega)) (by decide)) (Rb.dq (by omega) (by omega) (by omega)) (by omega) (by omega)).mono fun e w'' h=>h.b
 show qh qd 148 #[fm E F,.int .u64 (b:Int)] w (DGP (q0M E F b) (dq (mgN F (q0o E F b)) (mgX E F (q0o E F b))) w);obtain⟨q,hq⟩:=yx (dq (mgN F (q0o E F b)) (mgX E F (q0o E F b)));rw[<- hq] at J ⊢;obtain⟨M,hM⟩:=yx (mgN F (q0o E F b));rw[<- hM] at b7 J L I b3;obtain⟨X,hX⟩:=yx (mgX E F (q0o E F b));rw[<- hX] at J l p b1 b2;obtain⟨PQ,b8⟩:=yx (2^(E-1));rw[<- b8] at a6 l p b5;obtain⟨Q,hQ⟩:=yx ((PQ:Int)-1);rw[<- hQ] at a6 l p;have d9:Q<=1023:=by omega
 have e0:-1<=Q:=by omega
 obtain⟨ng,a7⟩:=yx (q0M E F b);obtain⟨x,hx⟩:=yx (q0c E F b);obtain⟨f,a8⟩:=yx (q0r F b);rw[<- a7,<- hx,<- a8] at b6;rw[<- a7] at J ⊢;rw[<- hx,<- a8] at L I;rw[<- hx] at l p b4 hf;obtain⟨TE,c0⟩:=yx (2^E-1);rw[<- c0] at Z hf;have t1:((x:Int)==(TE:Int))=qa:=by rw[k05];omega
 have e8:¬x=TE:=hf;have e7:=Z.1;obtain⟨PF,a9⟩:=yx (2^F);rw[<- a9] at d7 I;have c4:2^F<=2^(F+1):=k00 (by decide) (by omega);rw[<- a9] at c4;obtain⟨w0,b0⟩:=yx ((w.alloc (.cells #[.int .i64 (E:Int),.int .i64 (F:Int)] 23)).alloc (.cells #[.bool qa,.slice qe 0 0,.int .i64 0] 62));have hC:Cx w [(w.heap.size+1,62,[.bool qa,.slice qe 0 0,.int .i64 0]),(w.heap.size,23,[.int .i64 (E:Int),.int .i64 (F:Int)])] w0:=by rw[b0];exact((Cx.nil w).new _ [_,_] rfl).new _ [_,_,_] (by simp)
 have a:=vv hC;have HW:=vv b0;rcases k01 x with U|U
 ·have eM:M=f:=L U;have eX:=l U;subst U;subst eM;obtain⟨u,N⟩:=yx (1-Q);have e2:IntKind.i64.wrap (1-Q)=u:=by rw[<- N];exact ql _ (by omega)
  have e3:IntKind.i64.wrap (u-(F:Int))=X:=by rw[show u-(F:Int)=X by omega];exact ql _ (by omega)
  clear b0 hC h1 h2 h3 h4 hb hf hm b1 b2 d6 b3 p3 L I l p b4 b5 hq hM hX b8 hQ d9 e0 a7 hx a8 c0 Z a9 c4 eX N;obtain⟨c5,c6,c7⟩:=Blk.f2 (a.o.get 1 rfl);go_enter func148,ntmps148;go_wp2_with fail;rw[<- HW.o];go_wp2_with fail;refine(d8.o _).mono ?_;rintro e w4 ⟨rfl,d⟩;replace a:=vv (a.o.step d);clear c5 c6 c7 d;obtain⟨c8,d0,d1⟩:=Blk.f2 (a.o.get 1 rfl);go_wp2_with fail;refine(b6.o _).mono ?_;rintro e y ⟨rfl,d⟩;replace a:=vv (a.o.step d);clear c8 d0 d1 d;obtain⟨d2,a0,a1⟩:=Blk.f2 (a.o.get 1 rfl);go_wp2_with fail;obtain⟨O,P,a2⟩:=Blk.f2 (a.o.get 1 rfl);refine q02 (fun w'=>w'.cell? ⟨w.heap.size,0,qe⟩=qg (.int .i64 (E:Int))/\w'.cell? ⟨w.heap.size,1,qe⟩=qg (.int .i64 (F:Int))) 13
   (.still 0 (.still 1 (.still 3 (.still 6 (.still 7 (.one 2 (.one 4 (.still 5 (.still 8 (.one 9 (.still 10 (.still 11 (.one 12 .done))))))))))))) ⟨O,P⟩ (fun d3=>?_)
  iterate 5
   refine q03 ?_
  clear d2 a0 a1 a2 O P;obtain⟨R,s⟩:=yx (y.drew);have d:qf y.heap.size y R:=by rw[s];exact q05 (qc _ _)
  replace a:=vv (a.o.step d);rw[<- s] at d3 ⊢;clear s d;refine q01 rfl (by rfl) (fun K hK=>?_);go_simp;refine(b7.o R).mono ?_;rintro e d4 ⟨A1,n1,c1,rfl,V,-,d⟩;replace a:=vv (a.o.step d);have g:=vv (RN.mk V);clear d V;go_wp2_with fail;refine hK.out _ _ (Blk.c2 (a.o.get 1 rfl)) (fun t=>?_);clear hK;refine q01 rfl (by rfl) (fun K hK=>?_);go_simp;refine(a6.o d4).mono ?_;rintro e e4 ⟨rfl,d⟩;replace a:=vv (a.o.step d);replace g:=vv (g.o.below d);clear d;go_wp2_with fail;refine hK.out _ _ (Blk.c2 (a.o.get 1 rfl)) (fun t=>?_);clear hK
  iterate 2
   refine q03 ?_
  refine q01 rfl (by rfl) (fun K hK=>?_);go_simp;refine(J.o _ _ _ _ g.o).mono ?_;rintro e e5 ⟨W,z,C,D,N9,G,rfl,S,Y,d⟩;replace a:=vv (a.o.step d);replace g:=vv (g.o.below d);have d5:=vv S;have H:=vv Y;clear d S Y;go_wp2_with fail;refine hK.out _ _ (Blk.c2 (a.o.get 1 rfl)) (fun t=>?_);clear hK
  iterate 2
   refine q03 ?_
  refine q01 rfl (by rfl) (fun K hK=>?_);have i:=vv (a.o.get 0 rfl)
  with_reducible refine q0b 62 (.tmp 4) (.tmp 44) rfl (w.heap.size+1) [.bool W,.slice z C D,.int .i64 G] rfl rfl 62 _ i.o (by kernel_rfl) rfl rfl ?_
  intro e6 T j;replace a:=vv (a.o.put 0 rfl T j);replace g:=vv (g.o.apart_ i.o rfl j);replace H:=vv (H.o.apart_ i.o rfl j);clear i T j;refine hK.out _ _ (Blk.c2 (a.o.get 1 rfl)) (fun t=>?_);clear hK;refine q08 ?_;simp only[k0o,k0w];go_wp2;obtain⟨a3,a4,a5⟩:=Blk.c3 (a.o.get 0 rfl);exact qi (v:=.tuple #[q0q W z C D G,.int .i64 0]) (by simp [results,results148,go_sem,a3,a4,a5]) rfl ⟨z,C,D,N9,G,by unfold dyG;rw[d5.o],H.o,a.o.low⟩
 ·have eM:M=PF+f:=I (by omega);have eX:=p (by omega);have t2:((x:Int)==0)=qa:=by rw[k05];omega
  have e9:¬x=0:=by omega
  have m1:IntKind.u64.wrap (IntKind.u64.wrap ((2:Int)^min (IntKind.u64.wrap (F:Int)).toNat 64)+(f:Int))=(M:Int):=by
   have e1:IntKind.u64.wrap (F:Int)=(F:Int):=by rw[qk];omega
   rw[e1,k2f,k0Y (by omega),d7,qk];omega
  obtain⟨u,N⟩:=yx ((x:Int)-Q);have e2:IntKind.i64.wrap ((x:Int)-Q)=u:=by rw[<- N];exact ql _ (by omega)
  have e3:IntKind.i64.wrap (u-(F:Int))=X:=by rw[show u-(F:Int)=X by omega];exact ql _ (by omega)
  clear b0 hC h1 h2 h3 h4 hb hf hm b1 b2 d6 b3 p3 L I l p b4 b5 hq hM hX b8 hQ d9 e0 a7 hx a8 c0 Z a9 c4 eX N eM U;obtain⟨c5,c6,c7⟩:=Blk.f2 (a.o.get 1 rfl);go_enter func148,ntmps148;go_wp2_with fail;rw[<- HW.o];go_wp2_with fail;refine(d8.o _).mono ?_;rintro e w4 ⟨rfl,d⟩;replace a:=vv (a.o.step d);clear c5 c6 c7 d;obtain⟨c8,d0,d1⟩:=Blk.f2 (a.o.get 1 rfl);go_wp2_with fail;refine(b6.o _).mono ?_;rintro e y ⟨rfl,d⟩;replace a:=vv (a.o.step d);clear c8 d0 d1 d;obtain⟨d2,a0,a1⟩:=Blk.f2 (a.o.get 1 rfl);go_wp2_with fail;obtain⟨O,P,a2⟩:=Blk.f2 (a.o.get 1 rfl);refine q02 (fun w'=>w'.cell? ⟨w.heap.size,0,qe⟩=qg (.int .i64 (E:Int))/\w'.cell? ⟨w.heap.size,1,qe⟩=qg (.int .i64 (F:Int))) 19
   (.still 0 (.still 1 (.still 2 (.still 3 (.still 4 (.still 5 (.still 6 (.still 8 (.still 9 (.still 12 (.still 13 (.one 7 (.one 10 (.still 11 (.still 14 (.one 15 (.still 16 (.still 17 (.one 18 .done))))))))))))))))))) ⟨O,P⟩ (fun d3=>?_)
  iterate 11
   refine q03 ?_
  clear d2 a0 a1 a2 O P;obtain⟨R,s⟩:=yx (y.drew);have d:qf y.heap.size y R:=by rw[s];exact q05 (qc _ _)
  replace a:=vv (a.o.step d);rw[<- s] at d3 ⊢;clear s d;refine q01 rfl (by rfl) (fun K hK=>?_);go_simp;refine(b7.o R).mono ?_;rintro e d4 ⟨A1,n1,c1,rfl,V,-,d⟩;replace a:=vv (a.o.step d);have g:=vv (RN.mk V);clear d V;go_wp2_with fail;refine hK.out _ _ (Blk.c2 (a.o.get 1 rfl)) (fun t=>?_);clear hK;refine q01 rfl (by rfl) (fun K hK=>?_);go_simp;refine(a6.o d4).mono ?_;rintro e e4 ⟨rfl,d⟩;replace a:=vv (a.o.step d);replace g:=vv (g.o.below d);clear d;go_wp2_with fail;refine hK.out _ _ (Blk.c2 (a.o.get 1 rfl)) (fun t=>?_);clear hK
  iterate 2
   refine q03 ?_
  refine q01 rfl (by rfl) (fun K hK=>?_);go_simp;refine(J.o _ _ _ _ g.o).mono ?_;rintro e e5 ⟨W,z,C,D,N9,G,rfl,S,Y,d⟩;replace a:=vv (a.o.step d);replace g:=vv (g.o.below d);have d5:=vv S;have H:=vv Y;clear d S Y;go_wp2_with fail;refine hK.out _ _ (Blk.c2 (a.o.get 1 rfl)) (fun t=>?_);clear hK
  iterate 2
   refine q03 ?_
  refine q01 rfl (by rfl) (fun K hK=>?_);have i:=vv (a.o.get 0 rfl)
  with_reducible refine q0b 62 (.tmp 4) (.tmp 62) rfl (w.heap.size+1) [.bool W,.slice z C D,.int .i64 G] rfl rfl 62 _ i.o (by kernel_rfl) rfl rfl ?_
  intro e6 T j;replace a:=vv (a.o.put 0 rfl T j);replace g:=vv (g.o.apart_ i.o rfl j);replace H:=vv (H.o.apart_ i.o rfl j);clear i T j;refine hK.out _ _ (Blk.c2 (a.o.get 1 rfl)) (fun t=>?_);clear hK;refine q08 ?_;simp only[k0o,k0w];go_wp2;obtain⟨a3,a4,a5⟩:=Blk.c3 (a.o.get 0 rfl);exact qi (v:=.tuple #[q0q W z C D G,.int .i64 0]) (by simp [results,results148,go_sem,a3,a4,a5]) rfl ⟨z,C,D,N9,G,by unfold dyG;rw[d5.o],H.o,a.o.low⟩
end R4
end Go.Proofs.YtabcgemembkkcaaGreatDoor
