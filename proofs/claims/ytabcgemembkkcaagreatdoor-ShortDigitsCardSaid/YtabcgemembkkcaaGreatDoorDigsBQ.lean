/- Lemmas. -/
import Derived.Test.YtabcgemembkkcaaGreatDoorDigsBM
set_option linter.all false
set_option maxHeartbeats 2000000
set_option maxRecDepth 100000
open Go.Proofs.Tryz
open Go renaming IntKind.wrap_u64->qa,IntWalk.i64_in->qb,World->qc,Calls->qd
namespace Go.Proofs.YtabcgemembkkcaaGreatDoor
namespace Hx
open Go Go.RowKit R5 Scn Fms Exa
abbrev qdC:ByteArray:=⟨#[48,49,50,51,52,53,54,55,56,57,97,98,99,100,101,102]⟩
def atL(s:ByteArray)(i:Nat):Int:=if i=0 then fig ⟨#[48]⟩ s 0 else if i=1 then fig ⟨#[120]⟩ s 1 else fig qdC s i
def q4C(s:ByteArray):Nat->Nat
 | 0=>0
 | k+1=>q4C s k*16+(fig qdC s (2+k)).toNat
abbrev ldV(r:Nat)(i:Nat)(c:Int):Ending:=.returned (.tuple #[.int .u64 (r:Int),.int .i64 (i:Int),.int .i64 c])
def LdE(E F:Nat)(s:ByteArray)(d:Nat)(e:Ending):Prop:=
 (∃i,i<2+d/\(∀j,j<i->0<=atL s j)/\atL s i<0/\e=ldV 0 i 12) \/
 ((∀j,j<2+d->0<=atL s j) /\((2+d<s.size/\e=ldV 0 (2+d) 12) \/
   (s.size<=2+d/\q09 E F (q4C s (d))≠0/\e=ldV 0 2 6) \/
   (s.size<=2+d/\q09 E F (q4C s (d))=0/\e=ldV (q4C s (d)) 0 0)))
def ldM(d:Nat)(a:Act)(w:qc):Nat:=match a.tmps.getD 8 undef with
 | .pointer (some p)=>(match w.cell? p with|some (.int _ z)=>2+d-z.toNat|_=>0)
 | _=>0
end Hx
namespace R12
open Go Go.RowKit R5 Scn Fms Hx
def qf9(n:Nat):ByteArray:=⟨#[Hx.hx n]⟩
def wt(c:Nat):Int:=Lib.indexByte qdC.data.toList (low c).toUInt8
def hit(c k:Nat):Bool:=c==(Hx.hx k).toNat || (decide (9<k) && c==(Hx.hx k).toNat-32)
end R12
namespace R3
open Go Go.RowKit R5 Scn Fms
theorem Fits(E F:Int)(b:Nat)(w:qc)(hb:b<18446744073709551616):qd Tryz.prog 37 #[fm E F,.int .u64 (b:Int)] w fun e w'=>e=.returned (.int .i64 (q09 E F b))/\Below w.heap.size w w':=by
 have j:=vv fun w=>Check E F w
 have J:Blk (w.alloc (.cells #[.int .i64 E,.int .i64 F] 23)) w.heap.size 23 [.int .i64 E,.int .i64 F]:=Blk.made w 23 [.int .i64 E,.int .i64 F];obtain⟨K,n⟩:=yx (w.alloc (.cells #[.int .i64 E,.int .i64 F] 23));have g:Ctx w [(w.heap.size,23,[.int .i64 E,.int .i64 F])] K:=by rw[n];exact(Ctx.nil w).new _ _ rfl
 have l:=g.get 0 rfl |>.cell 0;have c1:=g.get 0 rfl |>.cell 1;have x:=g.get 0 rfl |>.lt;simp only[k06,k0l] at l c1;have r:=vv g;have y:=vv n;clear n J g;cases hok:R3.formOk E F with
 | false =>have m:Hid (q09 E F b=5):=vv (by unfold q09;rw[hok];rfl);rw[chk_no hok] at j;clear hok hb;go_enter func37,ntmps37;go_wp2_with fail;rw[<- y.o];go_wp2_with fail;refine(j.o _).mono ?_;rintro e L ⟨rfl,i⟩;have M:=vv (r.o.step i).low;clear i;go_wp2;go_ret;exact⟨q0X m.o.symm,M.o⟩
 | true =>
  obtain⟨a,c,rfl,rfl,N,O,Q,R⟩:=formOk_nat hok;rw[chk_ok hok] at j;have S:=vv fun w (h:a+c<63)=>Pow (1+a+c) w (by omega)
  have U:(a:Int)<=11:=by omega
  have V:(c:Int)<=52:=by omega
  have z:q09 (a:Int) (c:Int) b=if 2^(1+a+c)<=b then 6 else 0:=by
   unfold q09;rw[hok,k0p rfl];by_cases h:2^(1+a+c)<=b
   ·have:1+a+c<bl b:=by
     rcases k0A (1+a+c) (bl b) with k|k
     ·exact k
     ·have:=q0O b;have:=k00 (show 0<2 by decide) k;omega
    rw[k0p h,k0p (by omega)]
   ·have:=q0A (k2G h);rw[k0r h,k0r (by omega)]
  have m:=vv z;have C:IntKind.i64.wrap ((a:Int)+(c:Int))=(a:Int)+(c:Int):=qb _ (by omega);have D:IntKind.i64.wrap (1+(a:Int))=1+(a:Int):=qb _ (by omega);have G:IntKind.i64.wrap (1+(a:Int)+(c:Int))=1+(a:Int)+(c:Int):=qb _ (by omega);have H:=vv hb;clear hok hb C D G z N O Q R;go_enter func37,ntmps37;go_wp2_with fail;rw[<- y.o];go_wp2_with fail;refine(j.o _).mono ?_;rintro e L ⟨rfl,i⟩;have d:=vv (r.o.step i);clear i l c1 x;have l:=d.o.get 0 rfl |>.cell 0;have c1:=d.o.get 0 rfl |>.cell 1;have x:=d.o.get 0 rfl |>.lt;simp only[k06,k0l] at l c1;by_cases hlt:a+c<63
  ·have I:(a:Int)+(c:Int)<63:=by omega
   have p:=vv fun w=>S.o w hlt
   obtain⟨P,q⟩:=yx (R3.tw (1+a+c));rw[<- q] at p;have s:2^(1+a+c)=P:=q.symm;have t:Hid (q09 (a:Int) (c:Int) b=if P<=b then 6 else 0):=vv (by rw[m.o,s]);have u:((1+a+c:Nat):Int)=1+(a:Int)+(c:Int):=by omega
   rw[u] at p;clear q s u;go_wp2_with fail;refine(p.o _).mono ?_;rintro e w' ⟨rfl,rfl⟩;rcases k0A b P with v|v
   ·have T:¬(P:Int)<=(b:Int):=by omega
    have X:(b:Int)<(P:Int):=by omega
    have f:=vv (show q09 (a:Int) (c:Int) b=0 by rw[t.o,k0r (by omega)]);go_wp2;go_ret;exact⟨q0X f.o.symm,d.o.low⟩
   ·have T:(P:Int)<=(b:Int):=by omega
    have f:=vv (show q09 (a:Int) (c:Int) b=6 by rw[t.o,k0p v]);go_wp2;go_ret;exact⟨q0X f.o.symm,d.o.low⟩
  ·have I:¬(a:Int)+(c:Int)<63:=by omega
   have W:(63:Int)<=(a:Int)+(c:Int):=by omega
   have f:Hid (q09 (a:Int) (c:Int) b=0):=vv (by
    have e:a+c=63:=by omega
    rw[m.o,k0r];have:=H.o;rw[show 1+a+c=64 by omega,show(2:Nat)^64=18446744073709551616 from rfl];omega)
   go_wp2;go_ret;exact⟨q0X f.o.symm,d.o.low⟩
end R3
namespace R12
open Go Go.RowKit R5 Scn Fms Hx
def RlI(E F:Nat)(s:ByteArray)(d:Nat)(w:qc)(x i:Value)(wr:qc):Prop:=
 ∃k:Nat,k<=2+d/\i=.int .i64 (k:Int)/\x=.int .u64 ((q4C s (k-2):Nat):Int)/\(∀j,j<k->0<=atL s j)/\Ctx w [(w.heap.size,23,[.int .i64 (E:Int),.int .i64 (F:Int)])] wr
end R12
namespace R3
open Go Go.RowKit R5 Scn Fms
theorem Split(E F b:Nat)(w:qc)(h1:2<=E)(h2:E<=11)(h3:1<=F)(h4:F<=52)(hb:b<2^(1+E+F)):qd Tryz.prog 28 #[fm E F,.int .u64 (b:Int)] w fun e w'=>e=.returned (.tuple #[q3U (q0M E F b) (q0c E F b) (q0r F b),.int .i64 0])/\Below w.heap.size w w':=by
 have Q:b<18446744073709551616:=k03 hb (by rw[show(18446744073709551616:Nat)=2^64 from rfl];exact k00 (by decide) (by omega));have a0:=q0A hb;have R:q09 E F b=0:=by unfold q09;rw[formOk_in h1 h2 h3 h4,k0p rfl,k0r (by omega)]
 have V:=vv fun w=>Fits E F b w Q
 rw[R] at V;have J:=vv fun w=>Pow E w (by omega)
 have L:=vv fun w=>Pow F w (by omega)
 obtain⟨a,d⟩:=yx (tw E);obtain⟨c,g⟩:=yx (tw F);have W:0<a:=by rw[d];exact tw_pos E
 have pf:0<c:=by rw[g];exact tw_pos F
 rw[<- d] at J;rw[<- g] at L;obtain⟨x,hx⟩:=yx (b/c%a);obtain⟨f,n⟩:=yx (b%c);obtain⟨q,i⟩:=yx (b/c);obtain⟨s,p⟩:=yx (q/a);obtain⟨neg,M⟩:=yx (q0M E F b);have X:q0c E F b=x:=by rw[hx,d,g];rfl
 have Y:q0r F b=f:=by rw[n,g];rfl
 have S:a<=2^11:=by rw[d];exact k00 (by decide) h2
 have a1:x<2^11:=by rw[hx];exact k03 (k0i _ W) S
 have b0:(x:Int)<=2047:=by omega
 have l:IntKind.i64.wrap (x:Int)=(x:Int):=qb _ (by omega);have a2:s<2:=by
  rw[p,i,k0h,g,d];refine k0s ?_;have:tw F*tw E*2=2^(1+E+F):=by unfold tw;rw[show 1+E+F=F+E+1 by omega,k0d,k0e]
  rw[this];exact hb
 have m:((s:Int)==1)=neg:=by
  have e:b/2^(F+E)=s:=by rw[p,i,k0h,g,d,k0e];rfl
  rw[M];unfold q0M;rw[e];rcases(show s=0\/s=1 by omega) with h|h<;>rw[h]<;>rfl
 have a3:q<=b:=by rw[i];exact k0q _ _
 have d1:(b:Int).tdiv (c:Int)=(q:Int):=by rw[i,<- Int.ofNat_tdiv]
 have r:(q:Int).tdiv (a:Int)=(s:Int):=by rw[p,<- Int.ofNat_tdiv]
 have t:(q:Int).tmod (a:Int)=(x:Int):=by rw[hx,<- i,<- Int.ofNat_tmod]
 have u:(b:Int).tmod (c:Int)=(f:Int):=by rw[n,<- Int.ofNat_tmod]
 have a4:f<=b:=by rw[n];exact Nat.mod_le _ _
 have u1:IntKind.u64.wrap (q:Int)=(q:Int):=by rw[qa];omega
 have y:IntKind.u64.wrap (s:Int)=(s:Int):=by rw[qa];omega
 have z:IntKind.u64.wrap (x:Int)=(x:Int):=by rw[qa];omega
 have C:IntKind.u64.wrap (f:Int)=(f:Int):=by rw[qa];omega
 have ze:((a:Int)==0)=false:=by rw[k05];omega
 have zf:((c:Int)==0)=false:=by rw[k05];omega
 have a5:¬a=0:=by omega
 have a6:¬c=0:=by omega
 rw[X,Y,<- M];obtain⟨w0,N⟩:=yx ((w.alloc (.cells #[.int .i64 (E:Int),.int .i64 (F:Int)] 23)).alloc (.cells #[.bool false,.int .i64 0,.int .u64 0] 58));have Z:Ctx w [(w.heap.size+1,58,[.bool false,.int .i64 0,.int .u64 0]),(w.heap.size,23,[.int .i64 (E:Int),.int .i64 (F:Int)])] w0:=by rw[N];exact((Ctx.nil w).new 23 [.int .i64 (E:Int),.int .i64 (F:Int)] rfl).new 58 [.bool false,.int .i64 0,.int .u64 0] (by simp)
 have HW:=vv N;clear h1 h2 h3 h4 hb Q a0 R hx n p M a1 d g W pf i X Y S a2 a3 a4;have a7:=vv Z;have D:=vv (And.intro r (And.intro t (And.intro u (And.intro y (And.intro z (And.intro C (And.intro l m)))))));clear r t u y z C l m Z N;go_enter func28,ntmps28;go_wp2_with fail;rw[<- HW.o];go_wp2_with fail;refine(V.o _).mono ?_;rintro e w1 ⟨rfl,k⟩;have j:=vv (a7.o.step k);clear k;have c0:=(j.o.get 1 rfl).cell 0;have c1:=(j.o.get 1 rfl).cell 1;have cl:=(j.o.get 1 rfl).lt;simp only[k06,k0l] at c0 c1;go_wp2_with fail;refine(L.o _).mono ?_;rintro e w' ⟨rfl,rfl⟩;go_wp2_with fail;refine q02 (fun w'=>w'=w1.drew) 17
  (.still 0 (.still 1 (.still 2 (.still 6 (.still 7 (.still 8 (.still 12 (.still 13 (.still 14 (.one 3 (.still 4 (.still 5 (.one 9 (.still 10 (.still 11 (.one 15 (.still 16 .done))))))))))))))))) rfl (fun a8=>?_)
 obtain⟨r,t,u,y,z,C,l,m⟩:=D.o
 iterate 9
  refine q03 ?_
 refine q01 rfl (by rfl) (fun K hK=>?_);go_simp;refine(J.o _).mono ?_;rintro e w' ⟨rfl,rfl⟩;go_wp2_with fail;refine hK.out _ _ rfl (fun O=>?_);clear hK
 iterate 2
  refine q03 ?_
 refine q01 rfl (by rfl) (fun K hK=>?_);go_simp;refine(J.o _).mono ?_;rintro e w' ⟨rfl,rfl⟩;go_wp2_with fail;refine hK.out _ _ rfl (fun O=>?_);clear hK
 iterate 2
  refine q03 ?_
 refine q01 rfl (by rfl) (fun K hK=>?_);go_simp;refine(L.o _).mono ?_;rintro e w' ⟨rfl,rfl⟩;go_wp2_with fail;refine hK.out _ _ rfl (fun O=>?_);clear hK
 iterate 1
  refine q03 ?_
 refine q08 ?_;clear O
 try clear a8
 have HP:=vv (j.o.drew.get 0 rfl);have P:=vv j.o.drew.low;obtain⟨wd,T⟩:=yx (w1.drew);rw[<- T] at HP P ⊢;clear T;clear r t u y z C l m d1 u1 ze zf a5 a6 c0 c1 cl;simp only[k0o,k0w];go_wp2_with (with_reducible refine q00 rfl 58 (.tmp 4) (.tmp 37) rfl (w.heap.size+1) [.bool neg,.int .i64 (x:Int),.int .u64 (f:Int)] rfl rfl 58 _ HP.o (by kernel_rfl) rfl rfl ?_);intro w8 k U;have a9:=vv (q0a P.o U P.o.size (k1z _));obtain⟨G,H,I⟩:=blk3 k;have K:=vv (And.intro G (And.intro H I));clear k U G H I;go_wp2;obtain⟨G,H,I⟩:=K.o;exact bodyPost_ret (v:=.tuple #[q3U neg x f,.int .i64 0]) (by simp [results,results28,go_sem,G,H,I,q3U]) rfl ⟨rfl,a9.o⟩
theorem q8G(E F b:Nat)(w:qc)(h1:2<=E)(h2:E<=11)(h3:1<=F)(h4:F<=52)(hb:b<2^(1+E+F)):qd Tryz.prog 147 #[fm E F,.int .u64 (b:Int)] w fun e w'=>e=.returned (.tuple #[.int .u8 ((q1a E (q0c E F b) (q0r F b):Nat):Int),.int .i64 0])/\Below w.heap.size w w':=by
 have i:=vv fun w=>Split E F b w h1 h2 h3 h4 hb
 have y:=vv fun w=>Top E (F:Int) w h1 h2
 have t:q0c E F b<2^11:=k03 (k0i _ (k0a _)) (k00 (by decide) h2);have D:3<=R3.tw E-1:=by have:=R3.tw_le h1;unfold R3.tw at *;omega
 obtain⟨x,hx⟩:=yx (q0c E F b);obtain⟨f,z⟩:=yx (q0r F b);obtain⟨neg,u⟩:=yx (q0M E F b);obtain⟨m,q⟩:=yx (R3.tw E-1);have l:Hid (q1a E x f=if x=0 then(if f=0 then 1 else 2) else if x=m then(if f=0 then 4 else 5) else 3):=vv (by unfold q1a;rw[q]);rw[<- hx] at i t ⊢;rw[<- z] at i ⊢;rw[<- u] at i;rw[<- q] at y D;have Q:(x:Int)<=2047:=by omega
 have d:Below w.heap.size w (w.alloc (.cells #[.int .i64 (E:Int),.int .i64 (F:Int)] 23)):=(Below.refl _ _).alloc lr _;have N:Blk (w.alloc (.cells #[.int .i64 (E:Int),.int .i64 (F:Int)] 23)) w.heap.size 23 [.int .i64 (E:Int),.int .i64 (F:Int)]:=Blk.made w 23 [.int .i64 (E:Int),.int .i64 (F:Int)];have C:=vv d;have r:x<=m:=by
  have:x<2^E:=by rw[hx];exact k0i _ (k0a _)
  rw[q];unfold R3.tw;omega
 have G:(x=0/\f=0)\/(x=0/\f≠0)\/x≠0:=by omega
 clear h1 h2 h3 h4 hb t hx z u q d N;rcases G with ⟨a,c⟩|⟨a,c⟩|a
 ·have g:Hid (q1a E x f=1):=vv (by rw[l.o,k0p a,k0p c]);subst a c;go_enter func147,ntmps147;go_wp2_with fail;refine(i.o _).mono ?_;rintro e j ⟨rfl,d⟩;have k:=vn C d;clear d;go_wp2;go_ret2;rw[g.o];exact⟨rfl,k.o.alloc k.o.size _⟩
 ·have g:Hid (q1a E x f=2):=vv (by rw[l.o,k0p a,k0r c]);subst a;have O:((f:Int)==0)=false:=by rw[k05];omega
  clear c;go_enter func147,ntmps147;go_wp2_with fail;refine(i.o _).mono ?_;rintro e j ⟨rfl,d⟩;have k:=vn C d;clear d;go_wp2;go_ret2;rw[g.o];exact⟨rfl,k.o.alloc k.o.size _⟩
 ·have O:((x:Int)==0)=false:=by rw[k05];omega
  go_enter func147,ntmps147;go_wp2_with fail;refine(i.o _).mono ?_;rintro e j ⟨rfl,d⟩;have H:Hid (Ctx w [(w.heap.size,23,[.int .i64 (E:Int),.int .i64 (F:Int)])] j):=vv (((Ctx.nil w).new 23 [.int .i64 (E:Int),.int .i64 (F:Int)] rfl).step d);have n:=H.o.new 58 [.bool neg,.int .i64 (x:Int),.int .u64 (f:Int)] rfl;clear d;go_wp2_with fail;obtain⟨P,s⟩:=yx (j.alloc (.cells #[.bool neg,.int .i64 (x:Int),.int .u64 (f:Int)] 58));replace n:Ctx w [(j.heap.size,58,[.bool neg,.int .i64 (x:Int),.int .u64 (f:Int)]),(w.heap.size,23,[.int .i64 (E:Int),.int .i64 (F:Int)])] P:=by rw[s];exact n
  rw[<- s];have p:=vv n;clear n s;refine q02 (fun w'=>w'.cell? ⟨j.heap.size,1,none⟩=some (.int .i64 (x:Int))/\w'.cell? ⟨w.heap.size,0,none⟩=some (.int .i64 (E:Int))/\w'.cell? ⟨w.heap.size,1,none⟩=some (.int .i64 (F:Int))) 4
   (.still 0 (.still 1 (.still 2 (.one 3 .done)))) ⟨(p.o.get 0 rfl).cell 1,(p.o.get 1 rfl).cell 0,(p.o.get 1 rfl).cell 1⟩ (fun I=>?_)
  iterate 3
   refine q03 ?_
  refine q01 rfl (by rfl) (fun K hK=>?_);go_simp;refine(y.o _).mono ?_;rintro e S ⟨rfl,d⟩;have h:=vv (p.o.drew.step d);clear d;go_wp2_with fail;refine hK.out _ _ ⟨(h.o.get 0 rfl).cell 1,(h.o.get 1 rfl).cell 0,(h.o.get 1 rfl).cell 1⟩ (fun J=>?_);clear hK;refine q08 ?_;clear J I;simp only[k0o,k0w];have c2:=(h.o.get 0 rfl).cell 2;have T:=(h.o.get 0 rfl).lt;simp only[k06,k0l] at c2;rcases k0A x m with L|v
  ·have g:Hid (q1a E x f=3):=vv (by rw[l.o,k0r a,k0r (by omega)]);have M:(x:Int)<(m:Int):=by omega
   clear a L r;go_wp2;go_ret2;rw[g.o];exact⟨rfl,h.o.low⟩
  ·have M:¬(x:Int)<(m:Int):=by omega
   have R:(m:Int)<=(x:Int):=by omega
   by_cases hf0:f=0
   ·have g:Hid (q1a E x f=4):=vv (by rw[l.o,k0r a,k0p (by omega),k0p hf0]);subst hf0;clear a v r;go_wp2;go_ret2;rw[g.o];exact⟨rfl,h.o.low⟩
   ·have g:Hid (q1a E x f=5):=vv (by rw[l.o,k0r a,k0p (by omega),k0r hf0]);have U:((f:Int)==0)=false:=by rw[k05];omega
    clear a v r hf0;go_wp2;go_ret2;rw[g.o];exact⟨rfl,h.o.low⟩
theorem q5I(E x f:Nat)(h1:2<=E):decide (((q1a E x f:Nat):Int)<=3)=decide (x≠tw E-1):=by
 have b:3<=R3.tw E-1:=by have:=R3.tw_le h1;unfold R3.tw at *;omega
 obtain⟨m,e⟩:=yx (R3.tw E-1);unfold q1a;rw[<- e] at b ⊢;by_cases a:x=0
 ·rw[k0p a];have:x≠m:=by omega
  rw[k04 this];split<;>rfl
 ·rw[k0r a];by_cases c:x=m
  ·rw[k0p c];have g:decide (x≠m)=false:=k02 (fun h=>h c);rw[g];by_cases d:f=0
   ·rw[k0p d];rfl
   ·rw[k0r d];rfl
  ·rw[k0r c,k04 c];rfl
theorem Finite(E F b:Nat)(w:qc)(h1:2<=E)(h2:E<=11)(h3:1<=F)(h4:F<=52)(hb:b<2^(1+E+F)):qd Tryz.prog 70 #[fm E F,.int .u64 (b:Int)] w fun e w'=>e=.returned (.bool (decide (q0c E F b≠tw E-1)))/\Below w.heap.size w w':=by
 have d:=vv fun w=>q8G E F b w h1 h2 h3 h4 hb
 have f:=vv (q5I E (q0c E F b) (q0r F b) h1);obtain⟨c,g⟩:=yx (q1a E (q0c E F b) (q0r F b));rw[<- g] at d f;have a:Below w.heap.size w (w.alloc (.cells #[.int .i64 (E:Int),.int .i64 (F:Int)] 23)):=(Below.refl _ _).alloc lr _;have i:=vv a;rw[<- f.o];clear g h1 h2 h3 h4 hb a;go_enter func70,ntmps70;go_wp2_with fail;refine(d.o _).mono ?_;rintro e j ⟨rfl,a⟩;have h:=vn i a;clear a;go_wp2;go_ret;exact⟨rfl,h.o⟩
theorem Bias(E:Nat)(F:Int)(w:qc)(h1:2<=E)(h2:E<=11):qd Tryz.prog 249 #[fm E F] w fun e w'=>e=.returned (.int .i64 ((tw (E-1):Nat)-1:Int))/\Below w.heap.size w w':=by
 have g:((tw (E-1):Nat):Int)<=1024:=by have:=tw_le (show E-1<=10 by omega);have h:tw 10=1024:=rfl;omega
 have c:(1:Int)<=((tw (E-1):Nat):Int):=by have:=tw_pos (E-1);omega
 have a:=fun w=>Pow (E-1) w (by omega)
 have b:((E-1:Nat):Int)=(E:Int)-1:=by omega
 rw[b] at a;have a:=vv a;have d:(E:Int)<=11:=by omega
 have f:(2:Int)<=(E:Int):=by omega
 clear h1 h2 b;go_enter func249,ntmps249;go_wp2_with fail;refine(a.o _).mono ?_;rintro e w' ⟨rfl,rfl⟩;go_wp2;go_ret;exact⟨rfl,(Below.refl _ _).alloc lr _⟩
end R3
namespace R12
open Go Go.RowKit R5 Scn Fms
end R12
end Go.Proofs.YtabcgemembkkcaaGreatDoor
