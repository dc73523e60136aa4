/- Lemmas. -/
import Derived.Test.YtcdimmblnbkjjaaGreatDoorPartAG
import Derived.Laws.MathBits
set_option linter.all false
namespace Go.Proofs.YtcdimmblnbkjjaaGreatDoor
open Go Go.RowKit
theorem Rd.like{w w':World}{A:Option Addr}{n c:Nat}{xs:List Nat}(h:Rd w A n c xs)(e:w'.heap=w.heap):Rd w' A n c xs:=
 ⟨h.len,h.le,h.sm,h.lim,fun hn=>by
  obtain⟨b,off,e1,hlt,hc⟩:=h.cell hn;exact⟨b,off,e1,by rw[e];exact hlt,fun j hj=>by rw[<- hc j hj];simp only[World.cell?,e]⟩⟩
theorem q6d{B:Nat}{a w w':World}(h:Below B a w)(e:w'.heap=w.heap)(e1:w'.os=w.os)(e2:w'.tape=w.tape)(e3:w'.output=w.output):Below B a w':=
 ⟨e1.trans h.os,e2.trans h.tape,e3.trans h.output,by rw[e];exact h.size,fun k hk=>by rw[e];exact h.block k hk⟩
theorem Rd.trim_le{w:World}{A:Option Addr}{m c k:Nat}{zs:List Nat}(h:Rd w A m c (toL (val zs)))(hl:Lim zs)(hk:zs.length<=k):m<=k:=by
 rw[<- h.words];exact q17 (Nat.lt_of_lt_of_le (q0G hl) (Nat.pow_le_pow_right (by omega) hk))
theorem Rd.bound{w:World}{A:Option Addr}{m c k N:Nat}(h:Rd w A m c (toL N))(hk:N<4294967296^k):m<=k:=by
 rw[<- h.words];exact q17 hk
theorem Rd.drew{w:World}{A:Option Addr}{n c:Nat}{xs:List Nat}(h:Rd w A n c xs):Rd w.drew A n c xs:=h.like rfl
theorem q04{B:Nat}{a w:World}(h:Below B a w):Below B a w.drew:=q6d h rfl rfl rfl rfl
theorem q5n{a b h:Nat}(ha:a<4294967296^h)(hb:b<4294967296^h):a+b<4294967296^(h+1):=by
 rw[Nat.pow_succ];omega
theorem q1M{a k h:Nat}(ha:a<4294967296^k)(hk:k<=h):a<4294967296^h:=Nat.lt_of_lt_of_le ha (Nat.pow_le_pow_right (by omega) hk)
theorem Rd.le_of{w w':World}{A B:Option Addr}{m c n d M N:Nat}(h:Rd w A m c (toL M))(h':Rd w' B n d (toL N))(hle:M<=N):m<=n:=by
 rw[<- h.words,<- h'.words];exact q2u hle
theorem q0e.val2{a b:Nat}{w:World}{e:Ending}{w':World}(h:q0e (val (toL a)*val (toL b)) w e w'):q0e (a*b) w e w':=by
 rw[q03,q03] at h;exact h
theorem q0e.add2{a b:Nat}{w:World}{e:Ending}{w':World}(h:q0e (val (toL a)+b) w e w'):q0e (a+b) w e w':=by
 rw[q03] at h;exact h
theorem q0e.sub2{a b:Nat}{w:World}{e:Ending}{w':World}(h:q0e (val (toL a)-val (toL b)) w e w'):q0e (a-b) w e w':=by
 rw[q03,q03] at h;exact h
theorem q9l{x s h:Nat}(hx:x*2^s<18446744073709551616)(hh:h<4294967296):
  bits .or .u32 (h:Int) (IntKind.u64.wrap ((x:Int)*2^s)%4294967296)=((h ||| (x*2^s)%4294967296:Nat):Int)/\IntKind.u64.wrap ((x:Int)*2^s)/4294967296%4294967296=((x*2^s/4294967296:Nat):Int):=by
 have e0:(x:Int)*2^s=((x*2^s:Nat):Int):=by rw[Int.natCast_mul,Int.natCast_pow];rfl
 have e:IntKind.u64.wrap ((x:Int)*2^s)=((x*2^s:Nat):Int):=by
  rw[IntKind.wrap_u64,e0];omega
 rw[e];generalize x*2^s=P at *
 refine⟨?_,by omega⟩;have:=u32_or_nat h (P%4294967296) hh (Nat.mod_lt _ (by omega));rw[<- this]
 rfl
theorem qbp(x y:Nat)(hx:x<4294967296)(hy:y<4294967296):bits .or .u64 (x:Int) ((y:Int)*4294967296)=((x+4294967296*y:Nat):Int):=by
 have e:=u64_or_nat x (4294967296*y) (by omega) (by omega);have e2:((4294967296*y:Nat):Int)=(y:Int)*4294967296:=by omega
 rw[e2] at e;rw[e];have h2:=Nat.two_pow_add_eq_or_of_lt (i:=32) (b:=x) hx y;have h3:4294967296*y+x=4294967296*y ||| x:=h2;rw[Nat.or_comm,<- h3,Nat.add_comm]
theorem q2z(a s:Nat):(a:Int)/2^s=((a/2^s:Nat):Int):=by rw[Int.natCast_ediv,Int.natCast_pow];rfl
theorem q7q(x y s:Nat)(hx:x<4294967296)(hy:y<4294967296):bits .or .u64 (x:Int) ((y:Int)*4294967296)/2^s%4294967296=(((x+4294967296*y)/2^s%4294967296:Nat):Int):=by
 rw[qbp x y hx hy,q2z];generalize (x+4294967296*y)/2^s=Q;omega
theorem q68(x s:Nat):(x:Int)/2^s%4294967296=(((x+4294967296*0)/2^s%4294967296:Nat):Int):=by
 rw[q2z,Nat.mul_zero,Nat.add_zero];generalize x/2^s=Q;omega
theorem qaU(x p y:Nat)(G v c:Nat)(hp:G*v+c=p)(hp':p<18446744073709551616)(hx:x<4294967296)(hy:y<=1)(d q:Nat)(hd:d<4294967296)(hq:q<=1)(h:d+p%4294967296+y=x+4294967296*q):
  IntKind.u64.wrap (IntKind.u64.wrap ((x:Int)-bits .and .u64 ((G:Int)*(v:Int)+(c:Int)) 4294967295)-(y:Int))/9223372036854775808=(q:Int) /\
  IntKind.u64.wrap (IntKind.u64.wrap ((x:Int)-bits .and .u64 ((G:Int)*(v:Int)+(c:Int)) 4294967295)-(y:Int))%4294967296=(d:Int)/\((G:Int)*(v:Int)+(c:Int))/4294967296=((p/4294967296:Nat):Int):=by
 have e:(G:Int)*(v:Int)+(c:Int)=(p:Int):=by rw[<- hp,Int.natCast_add,Int.natCast_mul]
 rw[e,and_low32 _ (by omega) (by omega),IntKind.wrap_u64,IntKind.wrap_u64];omega
theorem qav(x c y:Nat)(hx:x<4294967296)(hc:c<4294967296)(hy:y<=1)(d q:Nat)(hd:d<4294967296)(hq:q<=1)(h:d+c+y=x+4294967296*q):
  IntKind.u64.wrap (IntKind.u64.wrap ((x:Int)-(c:Int))-(y:Int))/9223372036854775808=(q:Int)/\IntKind.u64.wrap (IntKind.u64.wrap ((x:Int)-(c:Int))-(y:Int))%4294967296=(d:Int):=by
 rw[IntKind.wrap_u64,IntKind.wrap_u64];omega
theorem Rd.below'{B:Nat}{w w':World}{A:Option Addr}{n c:Nat}{xs:List Nat}(h:Rd w A n c xs)(hb:Below B w w')(hB:∀a,A=some a->a.block<B):Rd w' A n c xs:=
 ⟨h.len,h.le,h.sm,h.lim,fun hn=>by
  obtain⟨b,off,e,hlt,hc⟩:=h.cell hn;exact⟨b,off,e,Nat.lt_of_lt_of_le hlt hb.size,fun j hj=>(hb.cell (p:=⟨b,off+j,none⟩) (show b<B from hB _ e)).trans (hc j hj)⟩⟩
theorem Rd.block_lt{w:World}{A:Option Addr}{n c:Nat}{xs:List Nat}(h:Rd w A n c xs)(hn:0<n):∀a,A=some a->a.block<w.heap.size:=by
 intro a e;obtain⟨b,off,e',a0,_⟩:=h.cell hn;rw[e'] at e;cases e
 exact a0
def bt(N e:Nat):Nat:=N/256^e%256
def hi(N k:Nat):Nat:=N/256^k*256^k
theorem q8I(N e:Nat):bt N e<256:=Nat.mod_lt _ (by decide)
theorem q54(N:Nat):hi N 0=N:=by unfold hi;rw[Nat.pow_zero,Nat.div_one,Nat.mul_one]
theorem q79{N m:Nat}(h:N<256^m):hi N m=0:=by unfold hi;rw[Nat.div_eq_of_lt h,Nat.zero_mul]
theorem qaG(q:Nat):(4294967296:Nat)^q=256^(4*q):=by rw[Nat.pow_mul]
theorem q9T(N k:Nat):hi N k=hi N (k+1)+bt N k*256^k:=by
 unfold hi bt;have h1:N/256^(k+1)=N/256^k/256:=by rw[Nat.pow_succ,Nat.div_div_eq_div_mul]
 have h2:=Nat.div_add_mod (N/256^k) 256;rw[h1,Nat.pow_succ,Nat.mul_comm (256^k) 256,<- Nat.mul_assoc,<- Nat.add_mul];rw[Nat.mul_comm 256] at h2;rw[h2]
theorem q1I{W:List Nat}(hl:Lim W)(q r:Nat)(hr:r<4):nth W q/256^r%256=bt (val W) (4*q+r):=by
 unfold bt;rw[q3b hl,qaG,Nat.pow_add,<- Nat.div_div_eq_div_mul];obtain⟨x,hx⟩:=yx (val W/256^(4*q));rw[<- hx];have:=(by omega:r=0\/r=1\/r=2\/r=3);rcases this with rfl|rfl|rfl|rfl
 ·simp only[Nat.pow_zero,Nat.div_one];omega
 ·simp only[Nat.pow_one];omega
 ·rw[show 256^2=65536 from rfl];omega
 ·rw[show 256^3=16777216 from rfl];omega
theorem q4L(W:List Nat)(q d:Nat)(h:q<W.length):val (W.set q (nth W q+d))=val W+4294967296^q*d:=by
 induction W generalizing q with
 | nil=>exact absurd h (by simp)
 | cons x W ih =>
  cases q with
  | zero =>
   show val ((nth (x::W) 0+d)::W)=_;have e:nth (x::W) 0=x:=rfl;rw[e,q2P,q2P,Nat.pow_zero];omega
  | succ q =>
   have e:nth (x::W) (q+1)=nth W q:=rfl;have h':=ih q (by simpa using h);show val (x::W.set q (nth (x::W) (q+1)+d))=_;rw[e,q2P,q2P,h',Nat.pow_succ,Nat.mul_comm (4294967296^q) 4294967296,Nat.mul_assoc];omega
theorem q3o{W:List Nat}{N k q r:Nat}(hl:Lim W)(hq:q<W.length)(hk:k=4*q+r)(hr:r<4)(hv:val W=hi N (k+1)):
  bits .or .u32 (nth W q:Int) ((bt N k*256^r:Nat):Int)=((nth W q+bt N k*256^r:Nat):Int)/\nth W q+bt N k*256^r<4294967296/\bt N k*256^r<4294967296/\val (W.set q (nth W q+bt N k*256^r))=hi N k:=by
 have hx:=nth_lt hl q;have hc:=q8I N k;have hm:nth W q%256^(r+1)=0:=by
  rw[q3b hl,hv,qaG];unfold hi;have e:256^(k+1)=256^(r+1)*256^(4*q):=by rw[<- Nat.pow_add];congr 1;omega
  rw[e,<- Nat.mul_assoc,Nat.mul_div_cancel _ (Nat.pow_pos (by decide))];have d:256^(r+1) ∣ 4294967296:=by
   rcases(by omega:r=0\/r=1\/r=2\/r=3) with rfl|rfl|rfl|rfl<;>decide
  rw[Nat.mod_mod_of_dvd _ d,Nat.mul_mod_left]
 have a0:=q4L W q (bt N k*256^r) hq;have e3:4294967296^q*(bt N k*256^r)=bt N k*256^k:=by
  rw[qaG,hk,Nat.pow_add,Nat.mul_left_comm]
 rw[e3,hv,<- q9T] at a0;obtain⟨c,a1⟩:=yx (bt N k);obtain⟨x,a2⟩:=yx (nth W q);rw[<- a1,<- a2] at a0 ⊢;rw[<- a1] at hc;rw[<- a2] at hx hm;have hP:c*256^r<256^(r+1):=by rw[Nat.pow_succ,Nat.mul_comm];exact(Nat.mul_lt_mul_left (Nat.pow_pos (by decide))).2 hc
 have h4:x+c*256^r<4294967296:=by
  have hd:=Nat.div_add_mod x (256^(r+1));rw[hm,Nat.add_zero] at hd;rcases(by omega:r=0\/r=1\/r=2\/r=3) with rfl|rfl|rfl|rfl
  ·simp only[Nat.pow_zero,Nat.zero_add,Nat.pow_one] at *;omega
  ·simp only[Nat.pow_one,show 256^(1+1)=65536 from rfl] at *;omega
  ·simp only[show 256^2=65536 from rfl,show 256^(2+1)=16777216 from rfl] at *;omega
  ·simp only[show 256^3=16777216 from rfl,show 256^(3+1)=4294967296 from rfl] at *;omega
 refine⟨?_,h4,by omega,a0⟩;rw[u32_or_nat _ _ hx (by omega)];have hd:=Nat.div_add_mod x (256^(r+1));rw[hm,Nat.add_zero] at hd;have e2:(256:Nat)^(r+1)=2^(8*(r+1)):=by rw[Nat.pow_mul]
 rw[e2] at hd hP;have h:=Nat.two_pow_add_eq_or_of_lt (i:=8*(r+1)) (b:=c*256^r) hP (x/2^(8*(r+1)));rw[hd] at h;rw[h]
def q3r(w:World)(g:Nat)(t:TypeId)(U:List Nat):Prop:=w.rowIs g t U.length (fun j=>.int .u8 ((nth U j:Nat):Int))
theorem q3r.lt{w:World}{g:Nat}{t:TypeId}{U:List Nat}(h:q3r w g t U):g<w.heap.size:=World.rowIs.lt h
theorem q3r.cell{w:World}{g:Nat}{t:TypeId}{U:List Nat}(h:q3r w g t U){i:Nat}(hi:i<U.length):w.cell? ⟨g,i,none⟩=some (.int .u8 ((nth U i:Nat):Int)):=World.rowIs.cell h hi
theorem q3r.frozen{w:World}{g:Nat}{t:TypeId}{U:List Nat}(h:q3r w g t U)(i:Nat):w.frozen? ⟨g,i,none⟩=false:=World.rowIs.frozen h i
theorem q3r.set{w:World}{g:Nat}{t:TypeId}{U:List Nat}(h:q3r w g t U){i x:Nat}{z:Int}(hi:i<U.length)(hz:z=(x:Int)):q3r (w.setCell ⟨g,i,none⟩ (.int .u8 z)) g t (U.set i x):=by
 subst hz;unfold q3r;rw[List.length_set];refine(World.rowIs.set h i _).congr fun j _=>?_
 rw[q0M U i x j hi];split<;>rfl
theorem q3r.made(w:World)(n:Nat)(t:TypeId):q3r (w.alloc (.cells (madeCells #[.int .u8 0] n) t)) w.heap.size t (List.replicate n 0):=by
 unfold q3r;rw[List.length_replicate];exact(World.rowIs_made w _ n t).congr fun i _=>by rw[q19];rfl
structure Bd(w:World)(A:Option Addr)(m c N:Nat):Prop where
 lt:N<256^m
 le:m<=c
 sm:m<=35184372088832
 cell:0<m->∃b off,A=some ⟨b,off,none⟩/\b<w.heap.size/\∀j,j<m->w.cell? ⟨b,off+j,none⟩=some (.int .u8 ((bt N (m-1-j):Nat):Int))
theorem Bd.below{B:Nat}{w w':World}{A:Option Addr}{m c N:Nat}(h:Bd w A m c N)(hb:Below B w w')(hB:B=w.heap.size):Bd w' A m c N:=by
 subst hB;refine⟨h.lt,h.le,h.sm,fun hm=>?_⟩;obtain⟨b,off,e,hl,hc⟩:=h.cell hm;exact⟨b,off,e,Nat.lt_of_lt_of_le hl hb.size,fun j hj=>(hb.cell (p:=⟨b,off+j,none⟩) hl).trans (hc j hj)⟩
theorem q3r.bd{w:World}{g:Nat}{t:TypeId}{U:List Nat}(h:q3r w g t U){m c N:Nat}(hm:m=U.length)(hc:m<=c)(hs:m<=35184372088832)(hN:N<256^m)(he:∀j,j<m->nth U j=bt N (m-1-j)):Bd w (some ⟨g,0,none⟩) m c N:=
 ⟨hN,hc,hs,fun _=>⟨g,0,rfl,h.lt,fun j hj=>by rw[Nat.zero_add,<- he j hj];exact h.cell (by omega)⟩⟩
end Go.Proofs.YtcdimmblnbkjjaaGreatDoor
