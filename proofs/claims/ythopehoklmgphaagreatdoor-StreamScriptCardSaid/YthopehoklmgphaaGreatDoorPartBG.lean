/- Lemmas. -/
import Derived.Test.YthopehoklmgphaaGreatDoorPartBD
set_option linter.all false
set_option maxHeartbeats 4000000
set_option maxRecDepth 100000
open Go.Proofs.Tryz
open Go renaming World->qa,RowKit.Below.refl->qe,Calls->qh,wpList_append_own->qi,World.ownsRow_nil->qj,IntKind.wrap_i64->qk,Value->ql,Addr->qn
open Go.Proofs.Tryz renaming prog->qb
open Decidable renaming decide->qc
open Option renaming none->qd,some->qg
open Go.RowKit renaming Below->qf,Hid->qm
namespace Go.Proofs.YthopehoklmgphaaGreatDoor
variable{w:qa}{base g n cap P y0 k b m c:Nat}{e:TypeId}{U L l:List Nat}{v:ql}{s:ByteArray}{A:Option qn}
section
open Go Go.RowKit
theorem qab(U:List Nat)(i x:Nat):q0C (U.set i x)=(q0C U).set i (.int .u32 (x:Int)):=by unfold q0C;rw[List.map_set]
theorem q5d(h:w.ownsRow base e 1 (.slice (qg ⟨g,0,qd⟩) n cap) n (q0C U))(i x:Nat):(w.setCell ⟨g,i,qd⟩ (.int .u32 (x:Int))).ownsRow base e 1 (.slice (qg ⟨g,0,qd⟩) n cap) n (q0C (U.set i x)):=by
 obtain⟨b,c⟩:=h;rcases c with ⟨h,_⟩|⟨q,p,a,d,f,j,k,l,m,o⟩
 ·cases h
 ·cases d;refine⟨by simpa [q0C] using b,.inr ⟨g,cap,a.setIfInBounds i (.int .u32 (x:Int)),rfl,f,?_,k,l,by simpa using m,?_⟩⟩
  ·simp [World.setCell,k1S,j]
  ·rw[qab,<- o];rw[Array.toList_setIfInBounds,List.take_set]
theorem q5f(h:w.ownsRow base e 1 (.slice (qg ⟨g,0,qd⟩) n cap) n (q0C U)){i:Nat}(hi:i<n):w.cell? ⟨g,i,qd⟩=qg (.int .u32 ((nth U i:Nat):Int))/\w.frozen? ⟨g,i,qd⟩=false/\base<=g/\g<w.heap.size:=by
 have j:U.length=n:=by have:=h.1;simpa [q0C] using this
 rcases h.2 with ⟨h,_⟩|⟨m,k,l,c,d,a,o,p,q,f⟩
 ·cases h
 ·cases c;refine⟨?_,by simp [World.frozen?,a],d,(k09.1 a).1⟩;have b:=q34 U (i:=i) (by omega);rw[<- f,k0H,k15,if_pos hi] at b;simp only[World.cell?,a];rw[<- b];simp
theorem q2y(h:w.ownsRow base e 1 v n (q0C U))(hn:0<n):∃g cap,v=.slice (qg ⟨g,0,qd⟩) n cap/\base<=g:=by
 rcases h.2 with ⟨_,d⟩|⟨g,cap,c,a,b,_⟩
 ·omega
 ·exact⟨g,cap,a,b⟩
theorem q42(h:w.ownsRow base e 1 v n (q0C U)):∃A cap,v=.slice A n cap:=by
 rcases h.2 with ⟨a,rfl⟩|⟨g,cap,c,b,_⟩
 ·exact⟨qd,0,a⟩
 ·exact⟨_,_,b⟩
theorem q8H{w':qa}{B:Nat}(h:w.ownsRow base e 1 v n (q0C U))(hb:qf B w w')(hB:B=w.heap.size):w'.ownsRow base e 1 v n (q0C U):=by
 refine⟨h.1,?_⟩;rcases h.2 with d|⟨g,cap,b,f,c,a,i,j,k,l⟩
 ·exact .inl d
 ·exact .inr ⟨g,cap,b,f,c,(hb.block g (by rw[hB];exact(k09.1 a).1)).trans a,i,j,k,l⟩
theorem q89(w:qa)(s:ByteArray)(cap:Nat)(t:TypeId)(m:Nat × Nat)(k:Nat)(hk:k<s.size):(w.alloc (.cells (bytesRow s cap) t m)).cell? ⟨w.heap.size,k,qd⟩=qg (.int .u8 ((s[k].toNat:Nat):Int)):=by simp only[World.cell?];rw[heap_alloc_new];have h:=bytesRow_at s cap k hk;simp only[k13];exact h
def mS(U:List Nat)(P y0 k:Nat):Nat:=val (U.take k)*P+y0
theorem q6s(U:List Nat)(P y0:Nat):mS U P y0 0=y0:=by simp [mS,val]
theorem q96(U:List Nat)(P y0 k:Nat):mS U P y0 (k+1)=mS U P y0 k+4294967296^k*(nth U k*P):=by unfold mS;rw[q0b,k0U,k0k];omega
theorem q5o(U:List Nat)(P y0 k:Nat):mS U P y0 k/4294967296^k+nth U k*P=mS U P y0 (k+1)/4294967296^k:=by rw[q96,k1Y _ _ (k1I (by omega))]
theorem qdC(U:List Nat)(P y0 k:Nat):mS U P y0 (k+1)%4294967296^k=mS U P y0 k%4294967296^k:=by rw[q96,k1B]
theorem qce(U:List Nat)(P y0 k:Nat):mS U P y0 (k+1)%4294967296^(k+1)=mS U P y0 k%4294967296^k+4294967296^k*(mS U P y0 (k+1)/4294967296^k%4294967296):=by rw[k0f,Nat.mod_mul,qdC]
theorem q97(U:List Nat)(P y0 k:Nat):mS U P y0 (k+1)/4294967296^k/4294967296=mS U P y0 (k+1)/4294967296^(k+1):=by rw[k0f,k0D]
theorem q5n(U:List Nat)(hl:Lim U)(hy:y0<P):∀k,mS U P y0 k/4294967296^k<P
 | 0=>by rw[q6s];simpa using hy
 | k+1=>by have h1:=q5n U hl hy k;have h2:=q5o U P y0 k;have h3:nth U k<4294967296:=q2p hl k;rw[<- q97,<- h2];apply k0J;have h4:nth U k*P<=4294967295*P:=k0r _ (by omega);omega
theorem q98(U:List Nat)(P y0:Nat):mS U P y0 U.length=val U*P+y0:=by unfold mS;rw[k1m]
structure MulAt(U L:List Nat)(P y0 k:Nat):Prop where
 len:L.length=U.length
 lim:Lim L
 low:val (L.take k)=mS U P y0 k%4294967296^k
 high:∀j,k<=j->nth L j=nth U j
theorem MulAt.start(hl:Lim U)(P y0:Nat):MulAt U U P y0 0:=⟨rfl,hl,by simp [val,Nat.mod_one],fun _ _=>rfl⟩
theorem MulAt.step(h:MulAt U L P y0 k)(hk:k<U.length):MulAt U (L.set k (mS U P y0 (k+1)/4294967296^k%4294967296)) P y0 (k+1):=by
 refine⟨by rw[k0e];exact h.len,q9W h.lim k (k0z _ (by omega)),?_,fun j hj=>?_⟩
 ·rw[q0q _ _ _ (by rw[h.len];exact hk),h.low,qce]
 ·rw[q0z _ _ (by omega)];exact h.high j (by omega)
theorem MulAt.fin(h:MulAt U L P y0 U.length):val L=(val U*P+y0)%4294967296^U.length:=by have:=h.low;rw[<- h.len,k1m,h.len,q98] at this;exact this
theorem q0T(t:ByteArray):t.data.toList.length=t.size:=k2s
theorem q7L(t:ByteArray)(a b:Nat):(t.extract a b).data.toList=(t.data.toList.take b).drop a:=by rw[k1x,k1N,List.extract_eq_drop_take']
theorem NatCell.set{o:Nat}(h:NatCell w g)(hb:b≠g):NatCell (w.setCell ⟨b,o,qd⟩ v) g:=⟨(q0j (fun e=>hb (k0g Addr.block e))).trans h.c0,by rw[<- h.fz];exact World.frozen?_of_block (Go.Deep.blk_setCell_other _ _ _ _ (fun e=>hb e.symm)),by rw[Go.Deep.nblk_setCell];exact h.lt⟩
theorem q88(w:qa)(s:ByteArray):∃cap w1,(convert 9 56 (.string s)).run qb w=.ok (.slice (qg ⟨w.heap.size,0,qd⟩) s.size cap) w1/\(∀k (h:k<s.size),w1.cell? ⟨w.heap.size,k,qd⟩=qg (.int .u8 ((s[k].toNat:Nat):Int)))/\qf w.heap.size w w1/\w1.heap.size=w.heap.size+1:=by refine⟨_,_,run_bytes_of_string w 9 56 5 s underlying9 underlying56 underlying5,fun k h=>q89 w.drew s _ _ _ k h,?_,by simp⟩;exact(q07 (qe w.heap.size w)).alloc lr _
end
namespace Pnt
open Go Go.RowKit R5
def qep(N L:Nat)(w:qa)(e:Ending)(w':qa):Prop:=
 ∃V,e=.returned (.slice (qg ⟨w.heap.size,0,qd⟩) L L)/\Own w' w.heap.size 197 V/\V.length=L/\val V=N/\qf w.heap.size w w'
end Pnt
namespace A
open AB
open Go Go.RowKit
theorem qaE(B:Nat)(v:ql)(U:List Nat)(m c:Nat)(w:qa)(hr:w.ownsRow B 197 1 v U.length (q0C U))(hl:Lim U)(hm:m<4294967296)(hc:c<m)(hU:U.length<=1000000000)(hB:B<=w.heap.size):qh qb 287 #[v,.int .u32 (m:Int),.int .u32 (c:Int)] w fun e w'=>∃v' L,e=.returned v'/\w'.ownsRow B 197 1 v' L.length (q0C L)/\Lim L/\val L=val U*m+c/\L.length<=U.length+1/\qf B w w':=by
 obtain⟨i0,hi,V,W,X⟩:=info_parts Go.Proofs.YthopehoklmgphaaGreatDoor.AB.inf;obtain⟨A,cap,rfl⟩:=q42 hr;have HR:=vv hr;have P:=vv hl;have Y:=vv (q5n U hl hc);have j:=vv hB;have a2:(U.length:Int)<=1000000000:=by omega
 have b3:(m:Int)<=4294967295:=by omega
 have b4:(c:Int)<=4294967295:=by omega
 have b5:=vv hm;clear hr hl hU hB;go_enter func287,ntmps287;go_wp2;go_loopw [7,8] (fun y q wr=>∃(k:Nat) (L:List Nat),k<=U.length/\q=.int .i64 (k:Int)/\y=.int .u64 ((mS U m c k/4294967296^k:Nat):Int)/\MulAt U L m c k/\wr.ownsRow B 197 1 (.slice A U.length cap) U.length (q0C L)/\qf B w wr) (fun _ q _=>U.length-(intOf q).toNat)
 case atStart=>exact⟨0,U,k0d _,rfl,by rw[q6s,k0R,k1H],MulAt.start P.o m c,HR.o,qe _ _⟩
 case round =>
  obtain⟨q,L,hq,rfl,rfl,d,a,hB⟩:=hrel;have z:=vv d;have s:=vv a;have l:=vv hB;have f:=Y.o q;by_cases hqn:q<U.length
  ·obtain⟨g,b0,e,t⟩:=q2y a (by omega);cases e;obtain⟨Q,r2,r3,r4⟩:=q5f a hqn;rw[d.high q lr] at Q;have F:nth U q<4294967296:=q2p P.o q;have G:=q5o U m c q;obtain⟨Z,C⟩:=yx (mS U m c (q+1)/4294967296^q);obtain⟨y,b⟩:=yx (mS U m c q/4294967296^q);obtain⟨v,D⟩:=yx (nth U q);obtain⟨M,n⟩:=yx (v*m);rw[<- C,<- b,<- D,<- n] at G;rw[<- D] at Q F;rw[<- b] at f ⊢;have a1:(v:Int)*(m:Int)=(M:Int):=by rw[n,k0a]
   have b2:(M:Int)+(y:Int)=(Z:Int):=by omega
   have b6:(M:Int)<=18446744065119617025:=by have b1:v*m<=4294967295*4294967295:=k2m (by omega) (by omega);rw[<- n] at b1;omega
   have b7:(v:Int)<=4294967295:=by omega
   have a3:(y:Int)<=4294967295:=by omega
   have b8:(Z:Int)<=18446744069414584320:=by omega
   have a0:=vv (d.step hqn);have R:=vv C;have a4:qm ((wr.setCell ⟨g,q,qd⟩ (.int .u32 ((Z:Int)%4294967296))).ownsRow B 197 1 (.slice (qg ⟨g,0,qd⟩) U.length cap) U.length (q0C (L.set q (Z%4294967296)))):=vv (by have:=q5d a q (Z%4294967296);rw[k2c] at this;exact this);have j:=vv (hB.setCell (p:=⟨g,q,qd⟩) (show B<=g by omega) (.int .u32 ((Z:Int)%4294967296)));have b9:(q:Int)<(U.length:Int):=by omega
   clear d a hB f F G C b D n;go_wp2;go_roundw
   case rel =>
    refine⟨q+1,L.set q (Z%4294967296),by omega,by go_num,k0g _ ?_,?_,a4.o,j.o⟩
    ·rw[<- q97,<- R.o];omega
    ·rw[R.o];exact a0.o
   case measure=>simp [intOf];omega
  ·have a5:q=U.length:=by omega
   subst a5;obtain⟨S,E⟩:=yx (val U*m+c);have u:=z.o.fin;have x:=q98 U m c;rw[<- E] at u x;have H:=vv E;rw[x] at f ⊢;have i:=vv z.o.len;have r:=vv (k0O S (4294967296^U.length));obtain⟨y,b⟩:=yx (S/4294967296^U.length);rw[<- b] at f r ⊢;rw[<- u] at r;have I:=vv z.o.lim;have a3:(y:Int)<=4294967295:=by omega
   clear x u b E f;by_cases hy0:0<y
   ·have c0:=vv (show(U.length:Int)<=1000000000 from a2);clear d a hB;go_wp2_with (at_builtin;refine qi _ rfl _ _ 86 rfl B 197 i0 (.int .u32 0) 1 4 underlying86 hi V W X rfl (by decide) _ U.length (q0C L) rfl (s.o.alloc _) ⟨wr.heap.size,0,qd⟩ 1 1 [.int .u32 (y:Int)] rfl rfl (cell_one_new _ _ _) (by simp [Value.oneCell']) (by unfold maxLen;omega) (by omega) (by have:=l.o.size;have:=j.o;simp;omega) ?_);intro v' T J K _;have N:T.ownsRow B 197 1 v' (U.length+1) (q0C (L++[y])):=by
     have e:q0C (L++[y])=q0C L++[.int .u32 (y:Int)]:=by simp [q0C]
     rw[e];exact J
    have t:=s.o.lt;have O:qf B w T:=by have a6:B<=wr.heap.size:=k06 j.o l.o.size;exact(l.o.alloc a6 _).grown K (by simp;omega) (fun k h=>(t k h).1)
    have a7:=vv N;have a8:=vv O;clear J K N O t;go_wp2;go_ret;refine⟨v',L++[y],rfl,?_,q1A.2 ⟨I.o,q0B.2 ⟨by omega,q0Q⟩⟩,?_,by rw[k0p,i.o];exact lr,a8.o⟩
    ·rw[k0p,i.o];exact a7.o
    ·rw[q2b,i.o,k1v,<- H.o];exact r.o
   ·have a9:y=0:=by omega
    subst a9;clear hy0 d a hB;go_wp2;go_ret;refine⟨_,L,rfl,by rw[i.o];exact s.o,I.o,?_,by rw[i.o];omega,l.o⟩;have:=r.o;rw[k1w,k13] at this;rw[<- H.o];exact this
def fig(d:Nat):Nat:=if d<10 then 48+d else 87+d
theorem q8q(c:Nat)(w:qa)(h1:48<=c)(h2:c<=57):qh qb 286 #[.int .u8 (c:Int)] w fun e w'=>e=.returned (.int .u32 ((c:Int)-48))/\w=w':=by
 have a:(48:Int)<=(c:Int):=by omega
 have b:(c:Int)<=57:=by omega
 go_enter func286,ntmps286;go_wp2;go_ret;exact⟨rfl,rfl⟩
theorem q7x(c:Nat)(w:qa)(h1:97<=c)(h2:c<=122):qh qb 286 #[.int .u8 (c:Int)] w fun e w'=>e=.returned (.int .u32 ((c:Int)-87))/\w=w':=by
 have a:(97:Int)<=(c:Int):=by omega
 have b:(c:Int)<=122:=by omega
 go_enter func286,ntmps286;go_wp2;go_ret;exact⟨q0o (by omega),rfl⟩
theorem qe5(d:Nat)(w:qa)(h:d<16):qh qb 286 #[.int .u8 ((fig d:Nat):Int)] w fun e w'=>e=.returned (.int .u32 (d:Int))/\w=w':=by
 unfold fig;split
 ·refine(q8q (48+d) w (by omega) (by omega)).mono ?_;rintro e w' ⟨rfl,rfl⟩;exact⟨q0o (by omega),rfl⟩
 ·refine(q7x (87+d) w (by omega) (by omega)).mono ?_;rintro e w' ⟨rfl,rfl⟩;exact⟨q0o (by omega),rfl⟩
theorem Rsh(g o gx ox k:Nat)(v u:Int)(w:qa)(h:IntAt w g o v)(hx:IntAt w gx ox u)(hu:0<=u)(hk:k<30000000000000):qh qb 181 #[.pointer (qg ⟨g,o,qd⟩),.pointer (qg ⟨gx,ox,qd⟩),.int .u64 (k:Int)] w (q0L g o (u/2^k) w):=by
 have l:=vv h;have d:=hx.lt;obtain⟨A,n,c,f,m,q,t⟩:=hx.ex;have r:qc (u<0)=false:=k00 (by omega);rw[r] at f;have K:IntKind.i64.wrap (k:Int)=(k:Int):=by rw[qk];omega
 have x:=vv (down A n c _ k _ rfl w q (by omega));have y:qm ((u/2^k).natAbs=u.natAbs/2^k):=vv (by
  obtain⟨N,rfl⟩:∃N:Nat,u=(N:Int):=⟨u.toNat,by omega⟩;have:((N:Int)/2^k)=((N/2^k:Nat):Int):=by rw[k1k,k0v];rfl
  rw[this];rfl)
 have z:qm (0<=u/2^k):=vv (Int.ediv_nonneg hu (by
  have:(0:Int)<2^k:=by exact_mod_cast k1I (n:=k) (show 0<2 by decide)
  omega))
 clear q t h hx hk hu r;go_enter func181,ntmps181;go_wp2_with fail;refine x.o.mono ?_;rintro e C ⟨D,E,F,rfl,i,j,b⟩;have s:=vv b;have M:=(b.cell (p:=⟨gx,ox,qd⟩) d).trans f;have O:=(b.cell (p:=⟨gx,ox+1,qd⟩) d).trans m;rw[q06] at i;have G:=vv i;have H:=vv j;have L:gx<C.heap.size:=k01 d b.size;clear i j b f m d;go_wp2_with fail;refine(set_of g o v (u/2^k) _ D E F (u.natAbs/2^k) _ (l.o.below s.o) G.o (fun a e=>(H.o a e).2) y.o (q2P z.o)).mono ?_;rintro e P ⟨rfl,I,J⟩;go_wp2;go_ret;exact⟨rfl,I,(Fm.of_below s.o l.o.lt).trans J⟩
theorem TrailingZeroBits(g o:Nat)(u:Int)(w:qa)(h:IntAt w g o u)(hu:u≠0)(hs:Std w):qh qb 180 #[.pointer (qg ⟨g,o,qd⟩)] w fun e w'=>e=.returned (.int .u64 ((tz u.natAbs:Nat):Int))/\w=w':=by
 have i:=h.lt;obtain⟨A,n,c,j,b,a,d⟩:=h.ex;have f:=vv (zeros A n c u.natAbs w a (by omega) hs);have k:(tz u.natAbs:Int)<18446744073709551616:=by have b:=q1j (n:=u.natAbs) (by omega);have l:=bl_words u.natAbs;have m:=a.words;have p:=a.sm;omega
 have q:IntKind.u64.wrap ((tz u.natAbs:Nat):Int)=((tz u.natAbs:Nat):Int):=by rw[IntKind.wrap_u64];omega
 clear a d h hs hu;go_enter func180,ntmps180;go_wp2_with fail;refine f.o.mono ?_;rintro e r ⟨rfl,rfl⟩;go_wp2;go_ret;exact⟨rfl,rfl⟩
end A
namespace A
open AB
open Go Go.RowKit
def wv(l:List Nat):Nat:=l.foldl (fun n d=>16*n+d) 0
theorem qbK(l:List Nat):∀n,l.foldl (fun n d=>16*n+d) n=n*16^l.length+wv l:=by
 induction l with
 | nil=>intro n;simp [wv]
 | cons a l ih =>intro n;show l.foldl _ (16*n+a)=_;unfold wv;rw[ih,List.foldl_cons,ih (16*0+a),k19,k0f];rw[k0U,k1w,k13,k1F,k0h 16 n,k0k,k0h 16]
theorem q3M(a b:List Nat):wv (a++b)=wv a*16^b.length+wv b:=by unfold wv;rw[k2n];exact qbK b _
theorem qbJ(a:List Nat)(d:Nat):wv (a++[d])=16*wv a+d:=by rw[q3M,k2g,k29,k0h];show _+(16*0+d)=_;omega
theorem wv_lt(h:∀d∈l,d<16):wv l<16^l.length:=by
 have:∀l:List Nat,(∀d∈l,d<16)->wv l<16^l.length:=by
  intro l
  induction l with
  | nil=>intro _;decide
  | cons a l ih =>
   intro h;have c:=ih fun d hd=>h d (List.mem_cons_of_mem _ hd)
   have f:=h a List.mem_cons_self;have e:=q3M [a] l;rw[List.singleton_append] at e;rw[e,k19,k0f];have b:wv [a]=a:=by show 16*0+a=a;omega
   rw[b];have g:a*16^l.length<=15*16^l.length:=k0r _ (by omega);omega
 exact this l h
structure Hexs(s:ByteArray)(l:List Nat):Prop where
 len:s.size=l.length
 at_:∀i (h:i<s.size),(s[i]'h).toNat=fig (l.getD i 0)
 small:∀i,l.getD i 0<16
theorem Hexs.mem(h:Hexs s l):∀d∈l,d<16:=by
 intro d a;obtain⟨i,hi,rfl⟩:=List.mem_iff_getElem.1 a;have:=h.small i
 rwa [k08,k0n hi] at this
theorem Hexs.cut{t:ByteArray}(h:Hexs s l){a:Nat}(ht:t.data.toList=(s.data.toList.drop a).take b):Hexs t ((l.drop a).take b):=by
 have d:t.size=min b (s.size-a):=by rw[<- q0T,ht,k0l,k0o,q0T]
 refine⟨by rw[d,k0l,k0o,h.len],fun i hi=>?_,fun i=>?_⟩
 ·have c:t.data.toList[i]?=s.data.toList[a+i]?:=by rw[ht,k15,if_pos (by omega),k1u]
  rw[k0n (by rw[q0T];exact hi),k0n (by rw[q0T];omega)] at c;have e:t[i]=s[a+i]'(by omega):=k1M c;rw[e,h.at_ (a+i) (by omega)];rw[k08,k08,k15,if_pos (by omega),k1u]
 ·rw[k08,k15];split
  ·rw[k1u,<- k08];exact h.small _
  ·decide
theorem qcb(w:qa):Rd (w.alloc (.cells #[.int .u32 1] 197)) (qg ⟨w.heap.size,0,qd⟩) 1 1 [1]:=(Own.lit (t:=197) [1] (q0B.2 ⟨by omega,q0Q⟩) rfl).rd rfl lr (by decide)
theorem qcH(h j:Nat):(bits .and .i64 ((h:Int)/2^j) 1==1)=qc (h/2^j%2=1):=by
 rw[q3l];have e:bits .and .i64 ((h/2^j:Nat):Int) 1=((h/2^j%2:Nat):Int):=by
  generalize h/2^j=n;have a:(BitVec.ofInt 64 1).toNat=2^1-1:=by decide
  have b:(BitVec.ofInt 64 (n:Int) &&& BitVec.ofInt 64 1).toNat=((n:Int)%((2^64:Nat):Int)).toNat%2^1:=by rw[BitVec.toNat_and,BitVec.toNat_ofInt,a,Nat.and_two_pow_sub_one_eq_mod]
  show IntKind.i64.wrap ((BitVec.ofInt 64 (n:Int) &&& BitVec.ofInt 64 1).toNat:Nat)=_;rw[b,qk];omega
 rw[e];rcases k1P (h/2^j) with h|h<;>rw[h]<;>rfl
theorem q2c(n:Nat)(h:n<=131072)(hr:Rd w A m c (toL (16^n))):m<=16385:=by
 obtain⟨k,a⟩:=yx (16385);rw[<- a];refine hr.bound (k:=k) ?_;have e:(4294967296:Nat)^k=2^(32*k):=by rw[k18]
 have b:(16:Nat)^n=2^(4*n):=by rw[k18]
 rw[e,b];exact Nat.pow_lt_pow_right (by decide) (by omega)
theorem qbZ(h j:Nat):16^(h/2^j)=16^(h/2^(j+1))*16^(h/2^(j+1))*16^(h/2^j%2):=by
 have e:=q2C h j;have a:h/2^j=h/2^(j+1)+h/2^(j+1)+h/2^j%2:=by omega
 conv=>lhs;rw[a]
 rw[k0q,k0q]
def qeo(h:Nat)(w:qa)(v q:ql)(wr:qa):Prop:=
 ∃(k:Nat) (A:Option qn) (m c:Nat),q=.int .i64 ((k:Int)-1)/\k<=63/\v=.slice A m c/\Rd wr A m c (toL (16^(h/2^k)))/\Fr w.heap.size A/\qf w.heap.size w wr
theorem qdg(hR:Rd w A m c (toL P))(hm:m<=20000):qh qb 193 #[.slice A m c,.slice A m c] w (q0k (P*P) w):=by
 have:=mulWords A A m m c c _ _ w hR hR (by omega)
 rwa [q06] at this
theorem qeI(hR:Rd w A m c (toL P))(hm:m<=20000):qh qb 193 #[.slice A m c,.slice (qg ⟨w.heap.size,0,qd⟩) 1 1] (w.alloc (.cells #[.int .u32 16] 197)) (q0k (P*16) w):=by have a:qf w.heap.size w (w.alloc (.cells #[.int .u32 16] 197)):=(qe _ _).alloc lr _;have d:Rd (w.alloc (.cells #[.int .u32 16] 197)) (qg ⟨w.heap.size,0,qd⟩) 1 1 [16]:=(Own.lit (t:=197) [16] (q0B.2 ⟨by omega,q0Q⟩) rfl).rd rfl lr (by decide);refine(mulWords A _ m 1 c 1 _ _ _ (hR.below a rfl) d (by omega)).mono ?_;rintro e k ⟨f,g,h,rfl,b,i,j⟩;rw[q06] at b;exact⟨f,g,h,rfl,b,i.mono (by simp),a.trans (j.mono (by simp))⟩
theorem q3k(h:Nat)(w:qa)(hh:h<=65536):qh qb 285 #[.int .i64 16,.int .i64 (h:Int)] w (q0k (16^h) w):=by
 have a5:(h:Int)<=65536:=by omega
 have T:qm (∀k,h/2^k<=65536):=vv fun k=>k06 (k0y _ _) hh
 have G:qm (qeo h w (.slice (qg ⟨w.heap.size,0,qd⟩) 1 1) (.int .i64 62) (w.alloc (.cells #[.int .u32 1] 197))):=vv (by refine⟨63,_,_,_,rfl,by decide,rfl,?_,Fr.at_ lr,(qe _ _).alloc lr _⟩;rw[k1c (k0T hh (by decide))];exact qcb w);go_enter func285,ntmps285;go_wp2;go_loopw [5,6] (fun v q wr=>qeo h w v q wr) (fun _ q _=>(intOf q+1).toNat)
 case atStart=>exact G.o
 case round =>
  obtain⟨k,A,m,c,rfl,hk,rfl,g,r,s⟩:=hrel;have a6:=q2c _ (by have:=T.o k;omega) g;have i:=vv g;have U:=vv r;have d:=vv s;rcases k04 k with rfl|a7
  ·rw[k0R,k1H] at i;clear g r s G;go_wp2;go_ret;exact⟨_,_,_,rfl,i.o,U.o,d.o⟩
  ·obtain⟨j,rfl⟩:∃j,k=j+1:=⟨k-1,by omega⟩;have Z:((j+1:Nat):Int)-1=(j:Int):=by omega
   rw[Z];have a4:(j:Int)<=62:=by omega
   have J:=vv (qbZ h j);obtain⟨P,y⟩:=yx (16^(h/2^(j+1)));rw[<- y] at i J;have a1:0<P:=by rw[y];exact k1I (by decide)
   have HQ:qm (∀{A:Option qn} {m c:Nat} {w:qa},Rd w A m c (toL (P*P))->m<=20000):=vv fun g=>by rw[y,<- k0q] at g;exact k06 (q2c _ (by have:=T.o (j+1);omega) g) (by decide)
   have z:qm (((j:Int)-1+1).toNat<((j:Int)+1).toNat):=vv (by omega);have u:qm (∀(A:Option qn) (m c b:Nat) (wr:qa),h/2^j%2=b->Rd wr A m c (toL (P*P*16^b))->Fr w.heap.size A->qf w.heap.size w wr->qeo h w (.slice A m c) (.int .i64 ((j:Int)-1)) wr):=vv fun A m c b wr e g r s=>⟨j,A,m,c,rfl,by omega,rfl,by rw[J.o,e];exact g,r,s⟩
   have a2:=vv (qcH h j);have C:0<m:=by
    rcases k04 m with e|e
    ·subst e;have:=i.o.words;rw[q0c] at this;omega
    ·exact e
   obtain⟨b,off,rfl,a8,K⟩:=i.o.cell C;have L:=K 0 C;rw[k0S] at L;have M:(h/2^j%2=0/\(bits .and .i64 ((h:Int)/2^j) 1==1)=false)\/(h/2^j%2=1/\(bits .and .i64 ((h:Int)/2^j) 1==1)=true):=by
    rw[a2.o];rcases k1P (h/2^j) with e|e<;>rw[e]
    ·exact .inl ⟨rfl,rfl⟩
    ·exact .inr ⟨rfl,rfl⟩
   have a0:(P=1/\m=1/\nth (toL P) 0=1)\/(m=1/\1<nth (toL P) 0)\/1<m:=by
    rcases(by omega:1<m\/m=1) with e|e
    ·exact .inr (.inr e)
    ·have hw:=i.o.words;rw[e] at hw;have hn:nth (toL P) 0=P:=by
      have H:=q06 P;have h2:(toL P).length=1:=i.o.len.trans e;obtain⟨x,hx⟩:∃x,toL P=[x]:=List.length_eq_one_iff.1 h2;rw[hx] at H ⊢;have:val [x]=x:=by simp [val]
      rw[this] at H;rw[H];rfl
     rcases(by omega:P=1\/1<P) with I|I
     ·exact .inl ⟨I,e,hn.trans I⟩
     ·exact .inr (.inl ⟨e,by omega⟩)
   clear g r s K y G a1 C;have N:=vv (qdg i.o (by omega));rcases a0 with ⟨rfl,rfl,hn⟩|⟨rfl,hn⟩|hm1
   ·rw[hn] at L;have O:qm (Rd wr (qg ⟨b,off,qd⟩) 1 c (toL (1*1))):=i;clear hn;rcases M with ⟨a,D⟩|⟨a,D⟩
    ·have p:=vv a;clear a;go_wp2;go_roundw
     case rel=>exact u.o _ _ _ 0 _ p.o O.o U.o d.o
     case measure=>exact z.o
    ·have p:=vv a;have E:=vv (qeI O.o (by omega));clear a;go_wp2_with fail;refine E.o.mono ?_;rintro e V ⟨W,X,Y,rfl,f,l,n⟩;have t:=vv (u.o _ _ _ 1 _ p.o f (l.mono d.o.size) (d.o.trans (n.mono d.o.size)));clear f l n;go_wp2;go_roundw
     case rel=>exact t.o
     case measure=>exact z.o
   all_goals
    first
     | (have a3:(1:Int)<((nth (toL P) 0:Nat):Int):=by omega)
     | (have a3:(1:Int)<(m:Int):=by omega)
    rcases M with ⟨a,D⟩|⟨a,D⟩
    ·have p:=vv a;clear a;go_wp2_with fail;refine N.o.mono ?_;rintro e V ⟨W,X,Y,rfl,f,l,n⟩;have t:=vv (u.o _ _ _ 0 _ p.o (by rw[k0R,k0H];exact f) (l.mono d.o.size) (d.o.trans (n.mono d.o.size)));clear f l n;go_wp2;go_roundw
     case rel=>exact t.o
     case measure=>exact z.o
    ·have p:=vv a;clear a;go_wp2_with fail;refine N.o.mono ?_;rintro e V ⟨W,X,Y,rfl,f,l,n⟩;have a9:=vv (l.mono d.o.size);have F:=vn d n;have E:=vv (qeI f (HQ.o f));clear f l n;go_wp2_with fail;refine E.o.mono ?_;rintro e w2 ⟨A2,m2,c2,rfl,Q,R,S⟩;have t:=vv (u.o _ _ _ 1 _ p.o Q (R.mono F.o.size) (F.o.trans (S.mono F.o.size)));clear Q R S;go_wp2;go_roundw
     case rel=>exact t.o
     case measure=>exact z.o
end A
namespace A
open AB
open Go Go.RowKit
theorem wv_take_snoc(l:List Nat)(k:Nat)(h:k<l.length):wv (l.take (k+1))=16*wv (l.take k)+nth l k:=by rw[k0E h,qbJ];unfold nth;rw[k08,k0n h];rfl
theorem qdk(h:w.ownsRow base e 1 (.slice A n c) n (q0C L))(hl:Lim L)(hn:n<=35184372088832):Rd w A n c L/\Fr base A:=by
 have a:L.length=n:=by have:=h.1;simpa [q0C] using this
 rcases h.2 with ⟨b,rfl⟩|⟨g,cap,l,d,f,i,k,m,o,p⟩
 ·cases b;exact⟨⟨a,lr,hn,hl,fun h=>absurd h (by omega)⟩,Fr.none_ _⟩
 ·cases d;exact⟨⟨a,k,hn,hl,fun _=>⟨g,0,rfl,(k09.1 i).1,fun j hj=>by rw[k13];exact(q5f h hj).1⟩⟩,Fr.at_ f⟩
def q9V(l:List Nat)(n:Nat)(B:Nat)(w:qa)(v t c i:ql)(wr:qa):Prop:=
 ∃(k T C:Nat) (L:List Nat),i=.int .i64 (k:Int)/\k<=n/\t=.int .u32 (T:Int)/\c=.int .u32 (C:Int)/\1<=T/\(T<=1048576\/T=16777216)/\C<T/\(∃j,T=16^j)/\(k=n->T=1) /\wr.ownsRow B 197 1 v L.length (q0C L)/\Lim L/\val L*T+C=wv (l.take k)/\L.length<=k/\qf B w wr
theorem q7K{T j:Nat}(h:T=16^j)(hT:T<=1048576):16*T<=1048576\/16*T=16777216:=by
 subst h;have:j<=5:=by
  rcases k0M 5 j with h|h
  ·have:=k05 (n:=16) (by decide) h;have e:16^(5+1)=16777216:=by decide
   omega
  ·exact h
 rcases(by omega:j=0\/j=1\/j=2\/j=3\/j=4\/j=5) with rfl|rfl|rfl|rfl|rfl|rfl<;>decide
def q7p(N n:Nat)(w:qa)(e:Ending)(w':qa):Prop:=
 ∃A m c xs,e=.returned (.tuple #[.slice A m c,.bool true])/\Rd w' A m c xs/\val xs=N/\m<=n/\Fr w.heap.size A/\qf w.heap.size w w'
theorem q4M(s:ByteArray)(l:List Nat)(w:qa)(h:Hexs s l)(hs:s.size<=300):qh qb 233 #[.string s,.int .i64 16] w (q7p (wv l) s.size w):=by
 have H:=vv h;have b2:(s.size:Int)<=300:=by omega
 have b3:qc ((300:Int)<(s.size:Int))=false:=k00 (by omega);have HL:=vv h.len;have H0:qm (q9V l s.size w.heap.size w (.slice qd 0 0) (.int .u32 1) (.int .u32 0) (.int .i64 0) w):=vv ⟨0,1,0,[],rfl,k0d _,rfl,rfl,lr,.inl (by decide),by decide,⟨0,rfl⟩,fun _=>rfl,qj _ _ _ _,q0Q,rfl,k0d _,qe _ _⟩;clear h hs;go_enter func233,ntmps233;go_wp2;go_loopw [11,12,13,14] (fun v t c i wr=>q9V l s.size w.heap.size w v t c i wr) (fun _ _ _ i _=>s.size-(intOf i).toNat)
 case atStart=>exact H0.o
 case round =>
  clear H0;obtain⟨k,T,C,L,rfl,hk,rfl,rfl,a6,hT,hC,q,U,V,W,X,a1,K⟩:=hrel;have u:=vv V;have z:=vv W;have D:=vv X;have O:=vv K;have HJ:=vv q;have a2:=vv U;have a7:=K.size;clear V W X K q U;by_cases hks:k<s.size
  ·have P:=H.o.at_ k hks;have E:=H.o.small k;have F:=wv_take_snoc l k (by have:=HL.o;omega);obtain⟨d,Q⟩:=yx (nth l k);rw[show l.getD k 0=d from Q.symm] at P E;rw[<- Q] at F;have x:=vv fun w=>qe5 d w E
   rw[<- P] at x;have Y:=vv F;have b4:(d:Int)<=15:=by omega
   have b5:(T:Int)<=16777216:=by omega
   have b1:(1:Int)<=(T:Int):=by omega
   have b6:(C:Int)<(T:Int):=by omega
   have b7:(k:Int)<(s.size:Int):=by omega
   clear P F Q E;have Z:qm (∀(f:ql) (a:List Nat) (w':qa),w'.ownsRow w.heap.size 197 1 f a.length (q0C a)->Lim a->val a=val L*(16*T)+(16*C+d)->a.length<=L.length+1->qf w.heap.size wr w'->q9V l s.size w.heap.size w f (.int .u32 1) (.int .u32 0) (.int .i64 ((k:Int)+1)) w'):=vv fun f a w' b g m p n =>⟨k+1,1,0,a,by go_num,by omega,rfl,rfl,lr,.inl (by decide),by decide,⟨0,rfl⟩,fun _=>rfl,b,g,by rw[Y.o,<- D.o,m,k0u,k0H,k0S,k0Q];omega,by omega,O.o.trans n⟩
   obtain⟨M,y⟩:=yx (T*16);obtain⟨N,R⟩:=yx (C*16+d);have G:N<M:=by omega
   have I:M<=268435456:=by omega
   have HM:=vv (qaE w.heap.size _ L M N wr u.o z.o (by omega) G (by omega) a7);have a0:qm (∀(f:ql) (a:List Nat) (w':qa),w'.ownsRow w.heap.size 197 1 f a.length (q0C a)->Lim a->val a=val L*M+N->a.length<=L.length+1->qf w.heap.size wr w'->q9V l s.size w.heap.size w f (.int .u32 1) (.int .u32 0) (.int .i64 ((k:Int)+1)) w'):=vv fun f a w' b g m p n=>Z.o f a w' b g (by rw[m,y,R,k0h T,k0h C]) p n
   have b8:(T:Int)*16=(M:Int):=by omega
   have b9:(C:Int)*16+(d:Int)=(N:Int):=by omega
   have c0:(M:Int)<=268435456:=by omega
   have c1:(N:Int)<(M:Int):=by omega
   have J:T=16777216/\M=268435456\/M<=16777216:=by omega
   have a3:qm (M<=268435455->k+1<s.size->q9V l s.size w.heap.size w u11 (.int .u32 (M:Int)) (.int .u32 (N:Int)) (.int .i64 ((k:Int)+1)) wr):=vv fun b g =>
    ⟨k+1,M,N,L,by go_num,by omega,rfl,rfl,by omega,by
     obtain⟨j,q⟩:=HJ.o;have:=q7K q (by omega);omega,G,by
     obtain⟨j,q⟩:=HJ.o;exact⟨j+1,by rw[y,q,k0f]⟩,fun e=>by omega,u.o,z.o,by
     rw[Y.o,<- D.o,y,R,k0u,<- k0k,k0h _ 16];omega,by omega,O.o⟩
   clear hT a6 y R G Z;have a8:(268435455<M)\/(M<=268435455/\k+1=s.size)\/(M<=268435455/\k+1<s.size):=by omega
   rcases a8 with h|h|h
   ·have b:(268435455:Int)<(M:Int):=by omega
    clear h J I;go_wp2_with fail;refine(x.o _).mono ?_;rintro e w1 ⟨rfl,rfl⟩;go_wp2_with fail;refine HM.o.mono ?_;rintro e S ⟨f,a,rfl,b,g,m,p,n⟩;have r:=vv (a0.o f a S b g m p n);clear b g m p n;go_wp2;go_roundw
    case rel=>exact r.o
    case measure=>simp [intOf];omega
   ·have b:(M:Int)<=268435455:=by omega
    have g:((k:Int)==(s.size:Int)-1)=true:=by rw[k2r];omega
    clear h J I;go_wp2_with fail;refine(x.o _).mono ?_;rintro e w1 ⟨rfl,rfl⟩;go_wp2_with fail;refine HM.o.mono ?_;rintro e S ⟨f,a,rfl,b,g,m,p,n⟩;have r:=vv (a0.o f a S b g m p n);clear b g m p n;go_wp2;go_roundw
    case rel=>exact r.o
    case measure=>simp [intOf];omega
   ·have b:(M:Int)<=268435455:=by omega
    have g:((k:Int)==(s.size:Int)-1)=false:=by rw[k02];omega
    have r:=vv (a3.o h.1 h.2);clear h J I;go_wp2_with fail;refine(x.o _).mono ?_;rintro e w1 ⟨rfl,rfl⟩;go_wp2;go_roundw
    case rel=>exact r.o
    case measure=>simp [intOf];omega
  ·have a9:k=s.size:=by omega
   subst a9;have a4:=a2.o rfl;subst a4;have b0:C=0:=by omega
   subst b0;obtain⟨A,cap,rfl⟩:=q42 u.o;have a5:=vv (qdk u.o z.o (by omega));go_wp2;go_ret2;exact⟨A,L.length,cap,L,rfl,a5.o.1,by have:=D.o;rw[HL.o,k1m,k0H,k0S] at this;exact this,a1,a5.o.2,O.o⟩
theorem Hexs.high(h:Hexs s l)(hk:k<=s.size):Hexs (s.extract 0 k) (l.take k):=by
 have:=h.cut (t:=s.extract 0 k) (a:=0) (b:=k) (by rw[q7L,k0L,k0L])
 rwa [k0L] at this
theorem Hexs.low(h:Hexs s l)(hk:k<=s.size):Hexs (s.extract k s.size) (l.drop k):=by
 have:=h.cut (t:=s.extract k s.size) (a:=k) (b:=s.size-k) (by rw[q7L,List.drop_take])
 rwa [k0x (by rw[k0o,<- h.len];omega)] at this
theorem read(n:Nat):∀(s:ByteArray) (l:List Nat) (w:qa),s.size<=n->Hexs s l->s.size<=131072 ->qh qb 233 #[.string s,.int .i64 16] w (q7p (wv l) s.size w):=by
 induction n with
 | zero=>intro s l w J h hs;exact q4M s l w h (by omega)
 | succ n ih =>
  intro s l w J h hs;rcases k0M 300 s.size with K|K
  ·obtain⟨k,hk⟩:=yx (s.size/2);obtain⟨c,hc⟩:=yx (s.size-k);have r:=h.high (k:=c) (by omega);have t:=h.low (k:=c) (by omega);obtain⟨X,f⟩:=yx (s.extract 0 c);obtain⟨Y,g⟩:=yx (s.extract c s.size);rw[<- f] at r;rw[<- g] at t;have u:X.size=c:=by rw[f,ByteArray.size_extract];omega
   have v:Y.size=k:=by rw[g,ByteArray.size_extract];omega
   have L:=vv fun w=>ih X (l.take c) w (by omega) r (by omega)
   have M:=vv fun w=>ih Y (l.drop c) w (by omega) t (by omega)
   have HP:=vv fun w=>q3k k w (by omega)
   have HV:qm (wv (l.take c)*16^k+wv (l.drop c)=wv l):=vv (by have:=q3M (l.take c) (l.drop c);rw[k2h,k0o,<- h.len] at this;rw[this,show s.size-c=k by omega]);have HW:qm (wv l<4294967296^s.size):=vv (k01 (wv_lt h.mem) (by rw[h.len];exact k2w (by decide) _));rw[u] at L;rw[v] at M;have e1:s.extract 0 c=X:=f.symm;have e2:s.extract c s.size=Y:=g.symm;have a4:(s.size:Int)/2=(k:Int):=by omega
   have a5:(s.size:Int)-(k:Int)=(c:Int):=by omega
   have a6:(s.size:Int)<=131072:=by omega
   have a7:(k:Int)<=65536:=by omega
   have a8:(c:Int)<=(s.size:Int):=by omega
   have a9:(300:Int)<(s.size:Int):=by omega
   clear f g u v r t hk hc J h ih;go_enter func233,ntmps233;go_wp2_with fail;refine(L.o _).mono ?_;rintro e w1 ⟨A1,N,c1,x1,rfl,x,y,b0,Q,z⟩;have a:=vv x;have R:=vv y;have S:=vv z;clear x y Q z;go_wp2_with fail;refine(M.o _).mono ?_;rintro e w2 ⟨A2,m2,c2,x2,rfl,C,D,b1,T,i⟩;have a:=vv (a.o.below i rfl);have b:=vv C;have U:=vv D;have V:=vn S i;clear C D T i;go_wp2_with fail;refine(HP.o _).mono ?_;rintro e w3 ⟨A3,O,c3,rfl,j,W,d⟩;have b2:=q2c _ (by omega) j;have a:=vv (a.o.below d rfl);have b:=vv (b.o.below d rfl);have E:=vv j;have Z:=vn V d;have HM:=vv (mulWords A1 A3 N O c1 c3 _ _ w3 a.o E.o (by omega));clear j W d;go_wp2_with fail;refine HM.o.mono ?_;rintro e w4 ⟨A4,P,c4,rfl,m,a0,p⟩;have b3:P<=N+O:=m.bound (by rw[k0q];exact Nat.mul_lt_mul'' a.o.lt E.o.lt);have b:=vv (b.o.below p rfl);have F:=vn Z p;have a1:=vv (addWords A4 A2 P m2 c4 c2 _ _ w4 m b.o (by omega) (by omega));clear m a0 p;go_wp2_with fail;refine a1.o.mono ?_;rintro e w5 ⟨A5,m5,c5,rfl,q,G,H⟩;rw[q06,q06,R.o,U.o,HV.o] at q;have I:=vv q;have a2:=vv (G.mono F.o.size);have a3:=vn F H;clear q G H;go_wp2;go_ret2;exact⟨A5,m5,c5,_,rfl,I.o,q06 _,I.o.bound HW.o,a2.o,a3.o⟩
  ·exact q4M s l w h K
theorem SetString(g o:Nat)(v:Int)(s:ByteArray)(l:List Nat)(w:qa)(h:IntAt w g o v)(hh:Hexs s l)(h0:0<s.size)(hs:s.size<=131072):qh qb 179 #[.pointer (qg ⟨g,o,qd⟩),.string s,.int .i64 16] w fun e w'=>e=.returned (.tuple #[.pointer (qg ⟨g,o,qd⟩),.bool true])/\IntAt w' g o (wv l:Int)/\Fm g o w w':=by
 have t:=vv fun w=>read s.size s l w lr hh hs
 have f:=hh.at_ 0 h0;have p:=hh.small 0;obtain⟨c,b⟩:=yx ((s[0]).toNat);have q:c≠45/\c≠43:=by rw[b,f];unfold fig;split<;>omega
 have J:((c:Int)==45)=false:=by rw[k02];omega
 have K:((c:Int)==43)=false:=by rw[k02];omega
 have F:(s[0]).toNat=c:=b.symm;have G:(1:Int)<=(s.size:Int):=by omega
 have H:(s.size:Int)<=131072:=by omega
 have I:((0:Int)==(s.size:Int))=false:=by rw[k02];omega
 have hx:s.extract 0 s.size=s:=ByteArray.extract_zero_size;have i:=vv h;clear h hh f p b q;go_enter func179,ntmps179;go_wp2_with fail;refine(t.o _).mono ?_;rintro e u ⟨A,m,x,y,rfl,j,k,z,n,d⟩;have C:=vv d;have D:=vv (set_ g o v (wv l:Int) false A m x y u (i.o.below d) j (fun a e=>(n a e).2) (by rw[k0b,k]) (by rw[k00 (by omega)];rfl));clear j k z n d;go_wp2_with fail;refine D.o.mono ?_;rintro e L ⟨rfl,E,r⟩;go_wp2;go_ret2;exact⟨rfl,E,(Fm.of_below C.o i.o.lt).trans r⟩
theorem SetString_nil(g o:Nat)(w:qa):qh qb 179 #[.pointer (qg ⟨g,o,qd⟩),.string ⟨#[]⟩,.int .i64 16] w fun e w'=>e=.returned (.tuple #[.pointer qd,.bool false])/\w=w':=by go_enter func179,ntmps179;go_wp2;go_ret2;exact⟨rfl,rfl⟩
end A
namespace Nat_
open Go Go.RowKit R5
theorem Parse(s:ByteArray)(w:qa)(hd:q8h s)(h0:0<s.size)(h1:s.size<=65536):qh qb 71 #[.string s] w fun e w'=>∃A n,e=.returned (.tuple #[q4w A n n,.int .i64 0,.int .i64 0])/\Rd w' A n n (toL (dvk s s.size))/\Fr w.heap.size A/\qf w.heap.size w w':=by
 have Y:=vv hd;obtain⟨i0,hi,f4,f5,f6⟩:=info_parts Go.Proofs.YthopehoklmgphaaGreatDoor.AB.inf;have j2:(s.size:Int)<=65536:=by omega
 have H1:=vv h1;have d1:qc ((65536:Int)<(s.size:Int))=false:=k00 (by omega);have f7:=q1R h0;clear hd h1;go_enter func71,ntmps71;go_wp2;go_loop [19] (fun t=>∃k:Nat,k<=s.size/\t=.int .i64 k) (fun t=>s.size-(intOf t).toNat)
 case atStart=>exact⟨0,k0d _,rfl⟩
 case round =>
  obtain⟨k,hk,rfl⟩:=hrel;by_cases hks:k<s.size
  ·obtain⟨d1,d2⟩:=Y.o k hks;go_wp2;go_round
   case rel=>exact⟨k+1,by omega,by go_num⟩
   case measure=>simp [intOf];omega
  ·have d0:k=s.size:=by omega
   subst d0;clear hk hks;go_wp2;clear d1 f7;go_loopw [0,6] (fun v l wr=>∃(i:Nat) (t:ByteArray) (U:List Nat),i<=s.size/\v=.string t/\t.data.toList=s.data.toList.drop i/\wr.ownsRow (w.heap.size+1) 197 1 l U.length (q0C U)/\Lim U/\val U=dvk s i/\U.length<=i/\NatCell wr w.heap.size/\qf w.heap.size w wr) (fun v _ _=>match v with|.string t=>t.size|_=>0)
   case atStart=>exact⟨0,s,[],k0d _,rfl,rfl,qj _ _ _ _,q0Q,rfl,lr,NatCell.made _ _,(qe _ _).alloc lr _⟩
   case round =>
    obtain⟨i,t,U,j3,rfl,ht,f,a8,hU,j4,m,u⟩:=hrel;have b6:t.size=s.size-i:=by rw[<- q0T,ht,k0o,q0T]
    obtain⟨A,cap,rfl⟩:=q42 f;have a9:=vv f;have O:=vv a8;have HU:=vv hU;have d8:=vv m;have HB:=vv u;have d9:=vv ht;have j5:(t.size:Int)<=65536:=by omega
    have j6:(U.length:Int)<=65536:=by omega
    have nl:=m.lt;have j7:=vv b6;clear f a8 hU m u ht;by_cases hgo:0<t.size
    ·obtain⟨j,hj⟩:=yx (min 9 t.size);have f8:j<=9:=by omega
     have j8:0<j:=by omega
     have j9:j<=t.size:=by omega
     have f9:min (9:Int) (t.size:Int)=(j:Int):=by omega
     have g0:min j t.size=j:=by omega
     obtain⟨C,hC⟩:∃C,t.extract 0 j=C:=⟨_,rfl⟩;obtain⟨T,hT⟩:∃T,t.extract j t.size=T:=⟨_,rfl⟩;have b7:C.data.toList=t.data.toList.take j:=by rw[<- hC,q7L,k0L]
     have b8:T.data.toList=s.data.toList.drop (i+j):=by rw[<- hT,q7L,k0x (by rw[q0T];exact lr),d9.o,List.drop_drop]
     have b9:C.size=j:=by rw[<- q0T,b7,k0l,q0T];omega
     have e0:T.size=t.size-j:=by rw[<- q0T,b8,k0o,q0T];omega
     have e2:∀k (h:k<C.size),∃c:Nat,C[k].toNat=c/\48<=c/\c<=57/\dvm s i (k+1)=10*dvm s i k+(c-48):=by
      intro k h;have c3:i+k<s.size:=by omega
      have e1:C[k]=s[i+k]:=by
       have a1:C.data.toList[k]?=s.data.toList[i+k]?:=by rw[b7,k15,if_pos (by omega),d9.o,k1u]
       rw[k0n (by rw[q0T];exact h),k0n (by rw[q0T];exact c3)] at a1;exact k1M a1
      obtain⟨a,b⟩:=Y.o (i+k) c3;exact⟨_,rfl,by rw[e1];exact a,by rw[e1];exact b,by rw[e1];exact q5t s i k c3⟩
     have g1:=vv e2;have e3:=vv b8;have g2:=vv e0;obtain⟨i9,w1,kc,a2,Q,g3⟩:=q88 wr C;rw[b9] at kc;have a7:=vv a2;have e4:=vv b9;have b4:=vv (q8H a9.o Q rfl);have d3:=vv (d8.o.below Q);have c4:=vn HB Q;have k0:wr.heap.size<w1.heap.size:=by omega
     have e5:i+j<=s.size:=by omega
     have I:=vv e5;clear b7 b8 e0 e2 a2 Q g3 hj e5 b6;have k1:(j:Int)<=9:=by omega
     go_wp2;clear f9 g0 hC hT kc b9;go_loop [8,9,53] (fun a b t=>∃k:Nat,k<=j/\a=.int .u64 (dvm s i k:Nat)/\b=.int .u64 (tn k:Nat)/\t=.int .i64 k) (fun _ _ t=>j-(intOf t).toNat)
     case atStart=>exact⟨0,k0d _,rfl,rfl,rfl⟩
     case round =>
      obtain⟨k,hk,rfl,rfl,rfl⟩:=hrel;by_cases hkj:k<j
      ·obtain⟨c,N,c1,c2,G⟩:=g1.o k (by rw[e4.o];exact hkj);have a0:=a7.o k (by rw[e4.o];exact hkj);rw[N] at a0;have m1:=q66 s Y.o i k (by have:=I.o;omega);have m2:=q59 (j:=k) (by omega);have m3:((dvm s i k:Nat):Int)<=1000000000:=by omega
       have m4:((tn k:Nat):Int)<=1000000000:=by unfold tn;omega
       have HS:=vv G;have g4:=vv (q8y k);clear m1 m2 N G;go_wp2;go_round
       case rel=>exact⟨k+1,by omega,k0g _ (by rw[HS.o];omega),k0g _ (by rw[g4.o];omega),by go_num⟩
       case measure=>simp [intOf];omega
      ·have d4:k=j:=by omega
       subst d4;clear hk hkj;have D:dvm s i k<tn k:=by have:=q66 s Y.o i k I.o;exact this
       have g5:((tn k:Nat):Int)<=1000000000:=by have:=q59 f8;unfold tn;omega
       obtain⟨P,hP⟩:=yx (tn k);obtain⟨x,hy⟩:=yx (dvm s i k);rw[<- hP] at g5 D ⊢;rw[<- hy] at D ⊢;have g6:=vv (q5n U O.o D);have HP:=vv hP;have HY:=vv hy;have d5:=vv (q6E s i k I.o);clear hP hy D;go_wp2;go_loopw [8,68] (fun y t wq=>∃(q:Nat) (L:List Nat),t=.int .i64 q/\q<=U.length/\y=.int .u64 (mS U P x q/4294967296^q:Nat)/\MulAt U L P x q/\wq.ownsRow (w.heap.size+1) 197 1 (.slice A U.length cap) U.length (q0C L)/\NatCell wq w.heap.size/\qf w.heap.size w wq) (fun _ t _=>U.length-(intOf t).toNat)
       case atStart=>exact⟨0,U,rfl,k0d _,by rw[q6s,k0R,k1H],MulAt.start O.o P x,b4.o,d3.o,c4.o⟩
       case round =>
        obtain⟨q,L,rfl,hq,rfl,H,f,m,u⟩:=hrel;have HM:=vv H;have c5:=vv f;have c6:=vv m;have R:=vv u;have J:=g6.o q;by_cases hqn:q<U.length
        ·obtain⟨g,j0,e,V⟩:=q2y f (by omega);cases e;obtain⟨r1,r2,r3,r4⟩:=q5f f hqn;rw[H.high q lr] at r1;have b0:nth U q<4294967296:=q2p O.o q;have N:=q5o U P x q;obtain⟨Z,hZ⟩:=yx (mS U P x (q+1)/4294967296^q);obtain⟨y,E⟩:=yx (mS U P x q/4294967296^q);obtain⟨v,hv⟩:=yx (nth U q);obtain⟨M,W⟩:=yx (v*P);rw[<- hZ,<- E,<- hv,<- W] at N;rw[<- hv] at r1 b0;rw[<- E] at J ⊢;have f3:(v:Int)*(P:Int)=(M:Int):=by rw[W,k0a]
         have j1:(y:Int)+(M:Int)=(Z:Int):=by omega
         have k2:(M:Int)<=4294967295000000000:=by have b1:v*P<=4294967295*1000000000:=k2m (by omega) (by omega);rw[<- W] at b1;omega
         have k3:(v:Int)<=4294967295:=by omega
         have g7:(y:Int)<=1000000000:=by omega
         have k4:(Z:Int)<=4294967296000000000:=by omega
         have b5:=vv (H.step hqn);have HZ:=vv hZ;have g8:qm ((wr.setCell ⟨g,q,qd⟩ (.int .u32 ((Z:Int)%4294967296))).ownsRow (w.heap.size+1) 197 1 (.slice (qg ⟨g,0,qd⟩) U.length cap) U.length (q0C (L.set q (Z%4294967296)))):=vv (by have:=q5d f q (Z%4294967296);rw[k2c] at this;exact this);have g9:=vv (m.set (b:=g) (o:=q) (v:=.int .u32 ((Z:Int)%4294967296)) (by omega));have i1:=vv (u.setCell (p:=⟨g,q,qd⟩) (show w.heap.size<=g by omega) (.int .u32 ((Z:Int)%4294967296)));have k5:(q:Int)<(U.length:Int):=by omega
         clear H f m u J b0 N hZ E hv W;go_wp2;go_roundw
         case rel =>
          refine⟨q+1,L.set q (Z%4294967296),by go_num,by omega,k0g _ ?_,?_,g8.o,g9.o,i1.o⟩
          ·rw[<- q97,<- HZ.o];omega
          ·rw[HZ.o];exact b5.o
         case measure=>simp [intOf];omega
        ·have i2:q=U.length:=by omega
         subst i2;obtain⟨S,G⟩:=yx (dvk s (i+k));have a5:=HM.o.fin;have a6:=q98 U P x;have eS:val U*P+x=S:=by rw[G,d5.o,HU.o,HP.o,HY.o];rfl
         rw[eS] at a5 a6;rw[a6] at J ⊢;have e6:=HM.o.len;have K:=vv e6;have X:=vv (k0O S (4294967296^U.length));obtain⟨y,E⟩:=yx (S/4294967296^U.length);rw[<- E] at J X ⊢;rw[<- a5] at X;have e7:=vv HM.o.lim;have HS:=vv G;have g7:(y:Int)<=1000000000:=by omega
         clear a6 a5 eS E G J e6;have b2:=vv (show T.size<t.size by rw[g2.o];omega);by_cases D:0<y
         ·have k6:=vv (show U.length<=65536 by omega);clear H f m u;go_wp2_with (at_builtin;refine qi _ rfl _ _ 86 rfl (w.heap.size+1) 197 i0 (.int .u32 0) 1 4 underlying86 hi f4 f5 f6 rfl (by decide) _ U.length (q0C L) rfl (c5.o.alloc _) ⟨wr.heap.size,0,qd⟩ 1 1 [.int .u32 (y:Int)] rfl rfl (cell_one_new _ _ _) (by simp [Value.oneCell']) (by unfold maxLen;omega) (by omega) (by have:=R.o.size;simp;omega) ?_);intro v' w5 a3 r _;have a4:w5.ownsRow (w.heap.size+1) 197 1 v' (U.length+1) (q0C (L++[y])):=by
           have e:q0C (L++[y])=q0C L++[.int .u32 (y:Int)]:=by simp [q0C]
           rw[e];exact a3
          have V:=c5.o.lt;have e8:qf w.heap.size w w5:=by have F:qf w.heap.size w (wr.alloc (.cells #[.int .u32 (y:Int)] 197)):=R.o.alloc R.o.size _;exact⟨r.os.trans F.os,r.tape.trans F.tape,r.output.trans F.output,k06 F.size r.size,fun i hi=>(r.block i (k01 hi F.size) (fun e=>by have:=(V i e.symm).1;omega)).trans (F.block i hi)⟩
          have e9:NatCell w5 w.heap.size:=by have h0:=c6.o.lt;have h1:NatCell (wr.alloc (.cells #[.int .u32 (y:Int)] 197)) w.heap.size:=c6.o.below ((qe wr.heap.size wr).alloc lr _);have e:=r.block w.heap.size h1.lt (fun e=>by have:=(V _ e.symm).1;omega);exact⟨(World.cell?_of_block e).trans h1.c0,(World.frozen?_of_block e).trans h1.fz,k01 h1.lt r.size⟩
          have i3:=vv a4;have c4:=vv e8;have i4:=vv e9;clear a3 r a4 e8 e9 V;go_wp2;go_roundw
          case rel =>
           refine⟨i+k,T,L++[y],I.o,rfl,e3.o,?_,q1A.2 ⟨e7.o,q0B.2 ⟨by omega,q0Q⟩⟩,?_,?_,i4.o,c4.o⟩
           ·rw[k0p,K.o];exact i3.o
           ·rw[q2b,K.o,k1v,<- HS.o];exact X.o
           ·rw[k0p,K.o];show U.length+1<=i+k;omega
          case measure=>exact b2.o
         ·have i5:y=0:=by omega
          subst i5;clear D H f m u;go_wp2;go_roundw
          case rel =>refine⟨i+k,T,L,I.o,rfl,e3.o,by rw[K.o];exact c5.o,e7.o,?_,by rw[K.o];omega,c6.o,R.o⟩;have:=X.o;rw[k1w,k13] at this;rw[this];exact HS.o
          case measure=>exact b2.o
    ·have i6:i=s.size:=by omega
     subst i6;clear b6;obtain⟨A',c',e,f0,f1⟩:=q5Q a9.o O.o (by omega);cases e;have i7:wr.heap.size=wr.heap.size:=rfl;go_wp2_with fail;refine(q8v A U.length cap U _ f0).mono ?_;rintro e w2 ⟨z,d,rfl,c7,f2,c8⟩;rw[HU.o] at c7;have b3:qm (Fr (w.heap.size+1) z):=vv (fun a e=>f1 a (f2 a e));have c9:=vv (d8.o.below c8);have i8:=vn HB c8;have c0:=c9.o.c0;have fz:=c9.o.fz;have lt:=c9.o.lt;have d6:qm (Rd (w2.setCell ⟨w.heap.size,0,qd⟩ (.slice z d d)) z d d (toL (dvk s s.size))):=vv (c7.other _ _ _ (fun a e=>by have:=(b3.o a e).1;omega));have d7:=vv (i8.o.setCell (p:=⟨w.heap.size,0,qd⟩) lr (.slice z d d));have a0:(w2.setCell ⟨w.heap.size,0,qd⟩ (.slice z d d)).cell? ⟨w.heap.size,0,qd⟩=qg (.slice z d d):=q0t c0;clear c8 c7 f2 f0 f1 i7;go_wp2;exact bodyPost_ret (v:=.tuple #[q4w z d d,.int .i64 0,.int .i64 0]) (by simp [results,results71,go_sem,a0]) rfl ⟨z,d,rfl,d6.o,b3.o.mono (by omega),d7.o⟩
end Nat_
end Go.Proofs.YthopehoklmgphaaGreatDoor
