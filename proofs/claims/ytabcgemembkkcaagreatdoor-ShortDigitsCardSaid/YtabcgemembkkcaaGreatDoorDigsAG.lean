/- Lemmas. -/
import Derived.Test.YtabcgemembkkcaaGreatDoorDigsAF
set_option linter.all false
open Go renaming World->qa,IntKind.wrap_u64->qb,Addr->qc
namespace Go.Proofs.YtabcgemembkkcaaGreatDoor
variable{w w':qa}{A:Option qc}{n c g B a m k N b h x i:Nat}{xs U W:List Nat}{t:TypeId}{e:Ending}
section
open Go Go.RowKit
theorem Rd.like(h:Rd w A n c xs)(e:w'.heap=w.heap):Rd w' A n c xs:=⟨h.len,h.le,h.sm,h.lim,fun hn=>by obtain⟨b,off,e1,hlt,hc⟩:=h.cell hn;exact⟨b,off,e1,by rw[e];exact hlt,fun j hj=>by rw[<- hc j hj];simp only[World.cell?,e]⟩⟩
theorem Own.like(h:Own w g t U)(e:w'.heap=w.heap):Own w' g t U:=⟨h.1.of_block (by rw[e]),h.2⟩
theorem q6V{a:qa}(h:Below B a w)(e:w'.heap=w.heap)(e1:w'.os=w.os)(e2:w'.tape=w.tape)(e3:w'.output=w.output):Below B a w':=⟨e1.trans h.os,e2.trans h.tape,e3.trans h.output,by rw[e];exact h.size,fun k hk=>by rw[e];exact h.block k hk⟩
theorem Rd.trim_le{zs:List Nat}(h:Rd w A m c (toL (val zs)))(hl:Lim zs)(hk:zs.length<=k):m<=k:=by rw[<- h.words];exact q15 (k03 (q0Y hl) (k00 (by omega) hk))
theorem Rd.bound(h:Rd w A m c (toL N))(hk:N<4294967296^k):m<=k:=by rw[<- h.words];exact q15 hk
theorem Rd.drew(h:Rd w A n c xs):Rd w.drew A n c xs:=h.like rfl
theorem q05{a:qa}(h:Below B a w):Below B a w.drew:=q6V h rfl rfl rfl rfl
theorem q5S(ha:a<4294967296^h)(hb:b<4294967296^h):a+b<4294967296^(h+1):=by rw[k0d];omega
theorem q1N(ha:a<4294967296^k)(hk:k<=h):a<4294967296^h:=k03 ha (k00 (by omega) hk)
theorem Rd.le_of{B:Option qc}{d M:Nat}(h:Rd w A m c (toL M))(h':Rd w' B n d (toL N))(hle:M<=N):m<=n:=by rw[<- h.words,<- h'.words];exact q29 hle
theorem q0g.val2(h:q0g (val (toL a)*val (toL b)) w e w'):q0g (a*b) w e w':=by rw[q04,q04] at h;exact h
theorem q0g.add2(h:q0g (val (toL a)+b) w e w'):q0g (a+b) w e w':=by rw[q04] at h;exact h
theorem q0g.sub2(h:q0g (val (toL a)-val (toL b)) w e w'):q0g (a-b) w e w':=by rw[q04,q04] at h;exact h
theorem q7a{s:Nat}(hx:x*2^s<18446744073709551616)(hh:h<4294967296):bits .or .u32 (h:Int) (IntKind.u64.wrap ((x:Int)*2^s)%4294967296)=((h ||| (x*2^s)%4294967296:Nat):Int)/\IntKind.u64.wrap ((x:Int)*2^s)/4294967296%4294967296=((x*2^s/4294967296:Nat):Int):=by
 have a:(x:Int)*2^s=((x*2^s:Nat):Int):=by rw[k0f,k0C];rfl
 have e:IntKind.u64.wrap ((x:Int)*2^s)=((x*2^s:Nat):Int):=by rw[qb,a];omega
 rw[e];generalize x*2^s=P at *
 refine⟨?_,by omega⟩;have:=u32_or_nat h (P%4294967296) hh (k0i _ (by omega));rw[<- this];rfl
theorem qdu(x y:Nat)(hx:x<4294967296)(hy:y<4294967296):bits .or .u64 (x:Int) ((y:Int)*4294967296)=((x+4294967296*y:Nat):Int):=by
 have e:=u64_or_nat x (4294967296*y) (by omega) (by omega);have a:((4294967296*y:Nat):Int)=(y:Int)*4294967296:=by omega
 rw[a] at e;rw[e];have c:=k1p (i:=32) (b:=x) hx y;have d:4294967296*y+x=4294967296*y ||| x:=c;rw[Nat.or_comm,<- d,k0Z]
theorem q1m(a s:Nat):(a:Int)/2^s=((a/2^s:Nat):Int):=by rw[k1n,k0C];rfl
theorem q4T(x y s:Nat)(hx:x<4294967296)(hy:y<4294967296):bits .or .u64 (x:Int) ((y:Int)*4294967296)/2^s%4294967296=(((x+4294967296*y)/2^s%4294967296:Nat):Int):=by rw[qdu x y hx hy,q1m];generalize (x+4294967296*y)/2^s=Q;omega
theorem q6R(x s:Nat):(x:Int)/2^s%4294967296=(((x+4294967296*0)/2^s%4294967296:Nat):Int):=by rw[q1m,k1m,k1u];generalize x/2^s=Q;omega
theorem qcm(x p y:Nat)(G v c:Nat)(hp:G*v+c=p)(hp':p<18446744073709551616)(hx:x<4294967296)(hy:y<=1)(d q:Nat)(hd:d<4294967296)(hq:q<=1)(h:d+p%4294967296+y=x+4294967296*q):IntKind.u64.wrap (IntKind.u64.wrap ((x:Int)-bits .and .u64 ((G:Int)*(v:Int)+(c:Int)) 4294967295)-(y:Int))/9223372036854775808=(q:Int) /\IntKind.u64.wrap (IntKind.u64.wrap ((x:Int)-bits .and .u64 ((G:Int)*(v:Int)+(c:Int)) 4294967295)-(y:Int))%4294967296=(d:Int)/\((G:Int)*(v:Int)+(c:Int))/4294967296=((p/4294967296:Nat):Int):=by
 have e:(G:Int)*(v:Int)+(c:Int)=(p:Int):=by rw[<- hp,k1o,k0f]
 rw[e,and_low32 _ (by omega) (by omega),qb,qb];omega
theorem qbZ(x c y:Nat)(hx:x<4294967296)(hc:c<4294967296)(hy:y<=1)(d q:Nat)(hd:d<4294967296)(hq:q<=1)(h:d+c+y=x+4294967296*q):IntKind.u64.wrap (IntKind.u64.wrap ((x:Int)-(c:Int))-(y:Int))/9223372036854775808=(q:Int)/\IntKind.u64.wrap (IntKind.u64.wrap ((x:Int)-(c:Int))-(y:Int))%4294967296=(d:Int):=by rw[qb,qb];omega
theorem Rd.below'(h:Rd w A n c xs)(hb:Below B w w')(hB:∀a,A=some a->a.block<B):Rd w' A n c xs:=⟨h.len,h.le,h.sm,h.lim,fun hn=>by obtain⟨b,off,e,hlt,hc⟩:=h.cell hn;exact⟨b,off,e,k03 hlt hb.size,fun j hj=>(hb.cell (p:=⟨b,off+j,none⟩) (show b<B from hB _ e)).trans (hc j hj)⟩⟩
theorem Rd.block_lt(h:Rd w A n c xs)(hn:0<n):∀a,A=some a->a.block<w.heap.size:=by intro a e;obtain⟨b,off,f,d,_⟩:=h.cell hn;rw[f] at e;cases e;exact d
def bt(N e:Nat):Nat:=N/256^e%256
def hi(N k:Nat):Nat:=N/256^k*256^k
theorem qbj(N e:Nat):bt N e<256:=k0i _ (by decide)
theorem q81(N:Nat):hi N 0=N:=by unfold hi;rw[k0B,k1b,k0G]
theorem qa8(h:N<256^m):hi N m=0:=by unfold hi;rw[k0K h,k24]
theorem qce(q:Nat):(4294967296:Nat)^q=256^(4*q):=by rw[k1r]
theorem qb4(N k:Nat):hi N k=hi N (k+1)+bt N k*256^k:=by
 unfold hi bt;have b:N/256^(k+1)=N/256^k/256:=by rw[k0d,k0h]
 have a:=k0F (N/256^k) 256;rw[b,k0d,k0g (256^k) 256,<- k0j,<- k1f];rw[k0g 256] at a;rw[a]
theorem q21(hl:Lim W)(q r:Nat)(hr:r<4):nth W q/256^r%256=bt (val W) (4*q+r):=by
 unfold bt;rw[q3l hl,qce,k0e,<- k0h];obtain⟨x,hx⟩:=yx (val W/256^(4*q));rw[<- hx];have:=(by omega:r=0\/r=1\/r=2\/r=3);rcases this with rfl|rfl|rfl|rfl
 ·simp only[k0B,k1b];omega
 ·simp only[k1A];omega
 ·rw[show 256^2=65536 from rfl];omega
 ·rw[show 256^3=16777216 from rfl];omega
theorem q5b(W:List Nat)(q d:Nat)(h:q<W.length):val (W.set q (nth W q+d))=val W+4294967296^q*d:=by
 induction W generalizing q with
 | nil=>exact absurd h (by simp)
 | cons x W ih =>
  cases q with
  | zero =>show val ((nth (x::W) 0+d)::W)=_;have e:nth (x::W) 0=x:=rfl;rw[e,q34,q34,k0B];omega
  | succ q =>have e:nth (x::W) (q+1)=nth W q:=rfl;have a:=ih q (by simpa using h);show val (x::W.set q (nth (x::W) (q+1)+d))=_;rw[e,q34,q34,a,k0d,k0g (4294967296^q) 4294967296,k0j];omega
theorem q4Z{q r:Nat}(hl:Lim W)(hq:q<W.length)(hk:k=4*q+r)(hr:r<4)(hv:val W=hi N (k+1)):bits .or .u32 (nth W q:Int) ((bt N k*256^r:Nat):Int)=((nth W q+bt N k*256^r:Nat):Int)/\nth W q+bt N k*256^r<4294967296/\bt N k*256^r<4294967296/\val (W.set q (nth W q+bt N k*256^r))=hi N k:=by
 have hx:=nth_lt hl q;have m:=qbj N k;have g:nth W q%256^(r+1)=0:=by
  rw[q3l hl,hv,qce];unfold hi;have e:256^(k+1)=256^(r+1)*256^(4*q):=by rw[<- k0e];congr 1;omega
  rw[e,<- k0j,k2S _ (k1g (by decide))];have d:256^(r+1) ∣ 4294967296:=by rcases(by omega:r=0\/r=1\/r=2\/r=3) with rfl|rfl|rfl|rfl<;>decide
  rw[k2R _ d,Nat.mul_mod_left]
 have f:=q5b W q (bt N k*256^r) hq;have o:4294967296^q*(bt N k*256^r)=bt N k*256^k:=by rw[qce,hk,k0e,k0W]
 rw[o,hv,<- qb4] at f;obtain⟨c,j⟩:=yx (bt N k);obtain⟨x,l⟩:=yx (nth W q);rw[<- j,<- l] at f ⊢;rw[<- j] at m;rw[<- l] at hx g;have n:c*256^r<256^(r+1):=by rw[k0d,k0g];exact(Nat.mul_lt_mul_left (k1g (by decide))).2 m
 have p:x+c*256^r<4294967296:=by
  have a:=k0F x (256^(r+1));rw[g,k1u] at a;rcases(by omega:r=0\/r=1\/r=2\/r=3) with rfl|rfl|rfl|rfl
  ·simp only[k0B,k10,k1A] at *;omega
  ·simp only[k1A,show 256^(1+1)=65536 from rfl] at *;omega
  ·simp only[show 256^2=65536 from rfl,show 256^(2+1)=16777216 from rfl] at *;omega
  ·simp only[show 256^3=16777216 from rfl,show 256^(3+1)=4294967296 from rfl] at *;omega
 refine⟨?_,p,by omega,f⟩;rw[u32_or_nat _ _ hx (by omega)];have a:=k0F x (256^(r+1));rw[g,k1u] at a;have s:(256:Nat)^(r+1)=2^(8*(r+1)):=by rw[k1r]
 rw[s] at a n;have h:=k1p (i:=8*(r+1)) (b:=c*256^r) n (x/2^(8*(r+1)));rw[a] at h;rw[h]
def q28(w:qa)(g:Nat)(t:TypeId)(U:List Nat):Prop:=w.rowIs g t U.length (fun j=>.int .u8 ((nth U j:Nat):Int))
theorem q28.lt(h:q28 w g t U):g<w.heap.size:=World.rowIs.lt h
theorem q28.cell(h:q28 w g t U)(hi:i<U.length):w.cell? ⟨g,i,none⟩=some (.int .u8 ((nth U i:Nat):Int)):=World.rowIs.cell h hi
theorem q28.frozen(h:q28 w g t U)(i:Nat):w.frozen? ⟨g,i,none⟩=false:=World.rowIs.frozen h i
theorem q28.set(h:q28 w g t U){z:Int}(hi:i<U.length)(hz:z=(x:Int)):q28 (w.setCell ⟨g,i,none⟩ (.int .u8 z)) g t (U.set i x):=by
 subst hz;unfold q28;rw[k0c];refine(World.rowIs.set h i _).congr fun j _=>?_
 rw[q0H U i x j hi];split<;>rfl
theorem q28.alloc(h:q28 w g t U)(o:Obj):q28 (w.alloc o) g t U:=World.rowIs.alloc h o
theorem q28.below(h:q28 w g t U)(hb:Below B w w')(hg:g<B):q28 w' g t U:=World.rowIs.of_block h (hb.block g hg)
theorem q28.made(w:qa)(n:Nat)(t:TypeId):q28 (w.alloc (.cells (madeCells #[.int .u8 0] n) t)) w.heap.size t (List.replicate n 0):=by unfold q28;rw[k0H];exact(World.rowIs_made w _ n t).congr fun i _=>by rw[q10];rfl
structure Bd(w:qa)(A:Option qc)(m c N:Nat):Prop where
 lt:N<256^m
 le:m<=c
 sm:m<=35184372088832
 cell:0<m->∃b off,A=some ⟨b,off,none⟩/\b<w.heap.size/\∀j,j<m->w.cell? ⟨b,off+j,none⟩=some (.int .u8 ((bt N (m-1-j):Nat):Int))
theorem Bd.below(h:Bd w A m c N)(hb:Below B w w')(hB:B=w.heap.size):Bd w' A m c N:=by subst hB;refine⟨h.lt,h.le,h.sm,fun hm=>?_⟩;obtain⟨b,off,e,a,d⟩:=h.cell hm;exact⟨b,off,e,k03 a hb.size,fun j hj=>(hb.cell (p:=⟨b,off+j,none⟩) a).trans (d j hj)⟩
theorem q28.bd(h:q28 w g t U)(hm:m=U.length)(hc:m<=c)(hs:m<=35184372088832)(hN:N<256^m)(he:∀j,j<m->nth U j=bt N (m-1-j)):Bd w (some ⟨g,0,none⟩) m c N:=⟨hN,hc,hs,fun _=>⟨g,0,rfl,h.lt,fun j hj=>by rw[k10,<- he j hj];exact h.cell (by omega)⟩⟩
end
end Go.Proofs.YtabcgemembkkcaaGreatDoor
