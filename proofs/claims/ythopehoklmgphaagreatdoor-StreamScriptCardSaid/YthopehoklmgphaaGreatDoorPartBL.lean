/- Lemmas. -/
import Derived.Test.YthopehoklmgphaaGreatDoorPartBK
import Derived.Laws.AppendOwnNone
set_option linter.all false
set_option maxHeartbeats 2000000
set_option maxRecDepth 100000
open Go.Proofs.Tryz
open Decidable renaming decide->qa
open Go.Proofs.Tryz renaming prog->qb
open Bool renaming false->qc,true->qf
open Go.RowKit renaming Hid->qd
open Option renaming some->qe,none->qg
open Go renaming World->qh,Calls->qi,IntKind.wrap_u64->qj,World.grownBy.refl->qk,World.ownsRow_nil->ql,Value->qm
namespace Go.Proofs.YthopehoklmgphaaGreatDoor
section
open Go Go.RowKit
theorem q14{P:Program}{w:qh}{ops:Array Oper}{rest:List Oper}{o:Oper}{a:Act}{Q:Exit->Act->qh->Prop}(hgd:o.guard=qg)(s x:Operand)(t:TypeId)
  (ho:o.op=.call {callee:=.builtin .append,args:=#[s,x],argTypes:=#[t,t]})
  (base base2:Nat) (e:TypeId) (i:TypeInfo) (z:qm) (bytes:Nat) (ht:P.underlying t=qe (.slice e)) (hi:P.info? e=qe i) (hz:i.zero=qe z)
  (hsize:i.size=1) (hby:i.bytes=bytes) (hzs:z.cells.size=1)
  (v:qm) (n:Nat) (xs:List qm) (hs:a.eval s=v) (hown:w.ownsRow base e 1 v n xs)
  (v2:qm) (m:Nat) (news:List qm) (hx:a.eval x=v2) (hown2:w.ownsRow base2 e 1 v2 m news) (h1:∀u∈news,u.oneCell'=qf)
  (h63:n+m<=maxLen) (hbytes:(n+m)*bytes<=140737488355328) (hbase:base<=w.heap.size)
  (h:∀v' w',w'.ownsRow base e 1 v' (n+m) (xs++news)->w.grownBy w' v.ownBlock->wpList P ops Q rest (a.put o.dst v') w'):wpList P ops Q (o::rest) a w:=by
 obtain⟨b,c⟩:=hown2;rcases c with ⟨rfl,rfl⟩|⟨g,cap,q,rfl,y,k,c,C,r,d⟩
 ·have l:news=[]:=k0s (by simpa using b);subst l;exact wpList_append_own_none hgd s x t ho base e i 1 ht hi _ n xs hs hown hx (h _ _ (by simpa using hown) (qk _ _))
 ·refine wpList_append_own w hgd s x t ho base e i z 1 bytes ht hi hz hsize hby hzs (by decide) v n xs hs hown ⟨g,0,qg⟩ m cap news hx b (fun j u hj=>?_) h1 h63 hbytes hbase (fun v' w' h2 h3 _=>h v' w' h2 h3);have f:j<m*1:=by have:=(k1R.1 hj).1;omega
  rw[<- d,k15,if_pos f] at hj;have p:Addr.add ⟨g,0,qg⟩ j=⟨g,j,qg⟩:=by cases j with|zero=>rfl|succ j=>simp [Addr.add]
  rw[p,<- hj];simp only[World.cell?,k];simp
end
namespace Scn
open Go Go.RowKit
theorem q7a:Kind 112 ten:=⟨enters_of func112 (by kernel_rfl) rfl,qeu,fun t=>⟨k2K (ten_small t).1 (by decide),(ten_small t).2⟩⟩
theorem q5X:Kind 177 sixteen:=⟨enters_of func177 (by kernel_rfl) rfl,qal,sixteen_small⟩
theorem q1D.len{b:Nat}{L:List Nat}{u:St}{w:qh}{v:qm}{w':qh}(h:w'.ownsRow w.heap.size 5 1 v L.length (u8s L)):∃A cap,v=.slice A L.length cap:=q0E h
theorem must(K:Nat)(D:ByteArray->Nat × Nat)(hK:Kind K D)(b:Nat)(s:St)(w:qh)(h:ScAt w b s)(hg:Bg w):qi qb 232 #[.pointer (qe ⟨b,0,qg⟩),.func (.func K) #[] #[]] w (q1D b (s.must D).1 (s.must D).2 w):=by
 have f:=vv (row K D hK b s w h);have p:=vv h;have E:=vv hg;obtain⟨L,u,g⟩:∃L u,s.row D=(L,u):=⟨_,_,rfl⟩;have q:=vv g;rw[g] at f;replace f:qd (qi qb 231 #[.pointer (qe ⟨b,0,qg⟩),.func (.func K) #[] #[]] w (q1D b L u w)):=f;clear h hg g;by_cases hL:L.length=0
 ·have l:L=[]:=k0s hL;have i:qd (s.must D=([],u.fail 111)):=vv (by unfold St.must;rw[q.o];dsimp only;rw[l,if_pos rfl]);subst l;clear hL;go_enter func232,ntmps232;go_wp2_with fail;refine f.o.mono ?_;rintro e j ⟨v,rfl,a,d,c,_,_⟩;have t:=vv a;have x:=vv c;have F:=vv (fail b u 111 j d (E.o.grown c p.o));obtain⟨A,cap,rfl⟩:=q0E a;have y:=vv p.o.lt;clear a d c;go_wp2_with fail;refine F.o.mono ?_;rintro e I ⟨rfl,r,k⟩;have G:=vv r;have z:=vv (q00 x.o k);have C:=vv (q0s t.o k y.o);clear r k;go_wp2;go_ret;rw[i.o];show q1D b [] (u.fail 111) w _ _;exact⟨_,rfl,C.o,G.o,z.o,k0d _,fun _ h=>absurd h k0W⟩
 ·have i:qd (s.must D=(L,u)):=vv (by unfold St.must;rw[q.o];dsimp only;rw[if_neg fun e=>hL (by rw[e];rfl)]);have J:((L.length:Int)==0)=qc:=by rw[k02];omega
  clear hL;go_enter func232,ntmps232;go_wp2_with fail;refine f.o.mono ?_;rintro e j ⟨v,rfl,a,d,c,m,n⟩;have H:qd (q1D b L u w (.returned v) j):=vv ⟨v,rfl,a,d,c,m,n⟩;obtain⟨A,cap,rfl⟩:=q0E a;clear a d c m n;go_wp2;go_ret;rw[i.o];exact H.o
def q2m(b:Nat)(L:List Nat)(k:Nat)(u:St)(w:qh)(e:Ending)(w':qh):Prop:=
 ∃v,e=.returned (.tuple #[v,.int .i64 (k:Int)])/\w'.ownsRow w.heap.size 5 1 v L.length (u8s L)/\ScAt w' b u/\w.grownBy w' (qe b)/\L.length<=131072/\k<=65536/\∀d∈L,d<16
theorem mantissa(K:Nat)(D:ByteArray->Nat × Nat)(hK:Kind K D)(b:Nat)(s:St)(w:qh)(h:ScAt w b s)(hg:Bg w):qi qb 176 #[.pointer (qe ⟨b,0,qg⟩),.func (.func K) #[] #[]] w (q2m b (s.mantissa D).1 (s.mantissa D).2.1 (s.mantissa D).2.2 w):=by
 obtain⟨i0,hi,Z,a5,a6⟩:=info_parts q7X;have E:=vv (row K D hK b s w h);have HH:=vv h;have HG:=vv hg;have HK:=vv hK;obtain⟨L,u,W⟩:∃L u,s.row D=(L,u):=⟨_,_,rfl⟩;have HE:=vv W;rw[W] at E;replace E:qd (qi qb 231 #[.pointer (qe ⟨b,0,qg⟩),.func (.func K) #[] #[]] w (q1D b L u w)):=E;have n:=vv h.lt;clear h hg W hK;cases hp:u.has [46] with
 | false =>
  have F:qd (s.mantissa D=(L,0,if L=[] then u.fail 111 else u)):=vv (by unfold St.mantissa;rw[HE.o];dsimp only;rw[hp];rfl);have J:=vv hp;clear hp;go_enter func176,ntmps176;go_wp2_with fail;refine E.o.mono ?_;rintro e X ⟨v,rfl,i,j,l,a8,p⟩;have M:=vv i;have N:=vv l;have O:=vv p;have P:=vv (q6z b u ⟨#[46]⟩ X j J.o);obtain⟨A,cap,rfl⟩:=q0E i;clear i j l p;go_wp2_with fail;refine P.o.mono ?_;rintro e t ⟨rfl,f,c⟩;have HS:=vv f;have x:=vv (q00 N.o c);have G:=vv (q0s M.o c n.o);clear c;by_cases hL:L.length=0
  ·have Q:L=[]:=k0s hL;subst Q;have Y:=vv (fail b u 111 t f (HG.o.grown x.o HH.o));have q:qd (s.mantissa D=([],0,u.fail 111)):=vv (by rw[F.o,if_pos rfl]);clear hL f;go_wp2_with fail;refine Y.o.mono ?_;rintro e w3 ⟨rfl,f,c⟩;have a9:=vv f;have z:=vv (q00 x.o c);have y:=vv (q0s G.o c n.o);clear f c;go_wp2;go_ret2;rw[q.o];show q2m b [] 0 (u.fail 111) w _ _;exact⟨_,rfl,y.o,a9.o,z.o,k0d _,k0d _,fun _ h=>absurd h k0W⟩
  ·have q:qd (s.mantissa D=(L,0,u)):=vv (by rw[F.o,if_neg fun e=>hL (by rw[e];rfl)]);have t1:((L.length:Int)==0)=qc:=by rw[k02];omega
   clear hL f;go_wp2;go_ret2;rw[q.o];show q2m b L 0 u w _ _;exact⟨_,rfl,G.o,HS.o,x.o,by omega,k0d _,O.o⟩
 | true =>
  obtain⟨a,g,R⟩:∃a g,(u.skip 1).row D=(a,g):=⟨_,_,rfl⟩;have F:qd (s.mantissa D=(L++a,a.length,if L.length+a.length=0 then g.fail 111 else g)):=vv (by unfold St.mantissa;rw[HE.o];dsimp only;rw[hp,if_pos rfl,R]);have J:=vv hp;have b0:=vv R;clear hp R;go_enter func176,ntmps176;go_wp2_with fail;refine E.o.mono ?_;rintro e X ⟨v,rfl,i,j,l,a8,p⟩;have M:=vv i;have N:=vv l;have O:=vv p;have P:=vv (q81 b u ⟨#[46]⟩ X j J.o);obtain⟨A,cap,hv⟩:=q0E i;have HV:=vv hv;clear i j l p hv;go_wp2_with fail;refine P.o.mono ?_;rintro e t ⟨rfl,f,c⟩;have x:=vv (q00 N.o c);have G:=vv (q0s M.o c n.o);have H:=vv (row K D HK.o b (u.skip 1) t f);rw[b0.o] at H;have c1:=vv f;replace H:qd (qi qb 231 #[.pointer (qe ⟨b,0,qg⟩),.func (.func K) #[] #[]] t (q1D b a g t)):=H;clear c f;go_wp2_with fail;refine H.o.mono ?_;rintro e w3 ⟨v2,rfl,i,j,l,a1,p⟩;have z:=vv (q00 x.o l);have y:=vv (q0s G.o l n.o);have S:=vv i;have a2:=vv p;have a3:=vv j;have c2:=l.size;have b1:=x.o.size;obtain⟨A2,b8,b2⟩:=q0E i;have a7:=vv b2;clear i p l;have m:=y.o.lt;have a4:qd (∀d∈L++a,d<16):=vv (fun d h=>by
   rcases k1L.1 h with h|h
   ·exact O.o d h
   ·exact a2.o d h)
  rw[a7.o,HV.o];rw[HV.o] at y m;rw[a7.o] at S;by_cases hL:L.length+a.length=0
  ·have b3:L=[]:=k0s (by omega);have Q:a=[]:=k0s (by omega);subst b3 Q;have Y:=vv (fail b g 111 w3 j (HG.o.grown z.o HH.o));have q:qd (s.mantissa D=([],0,g.fail 111)):=vv (by rw[F.o];rfl);clear hL j m;go_wp2_with fail;refine Y.o.mono ?_;rintro e w4 ⟨rfl,f,c⟩;have b4:=vv f;have b9:=c.size;have b5:=vv (q00 z.o c);have a0:=vv (q0s y.o c n.o);have b6:=vv (q0s S.o c (k01 n.o b1));have m:=a0.o.lt;clear f c;go_wp2_with (at_builtin;refine q14 rfl _ _ 56 rfl w.heap.size t.heap.size 5 i0 (.int .u8 0) 1 underlying56 hi Z a5 a6 rfl _ 0 (u8s []) rfl a0.o _ 0 (u8s []) rfl b6.o (q56 []) (by decide) (by decide) (by omega) ?_);intro v' I C r;have T:qd (ScAt I b (g.fail 111)):=vv (b4.o.grown r (fun k e=>by have:=(m k e).1;have:=n.o;omega));have U:=vv (q0e b5.o r (fun k e=>(m k e).1));have V:=vv C;clear C r m;go_wp2;go_ret2;rw[q.o];show q2m b [] 0 (g.fail 111) w _ _;exact⟨_,rfl,V.o,T.o,U.o,k0d _,k0d _,fun _ h=>absurd h k0W⟩
  ·have q:qd (s.mantissa D=(L++a,a.length,g)):=vv (by rw[F.o,if_neg hL]);have t1:((L.length:Int)+(a.length:Int)==0)=qc:=by rw[k02];omega
   have c0:(L.length:Int)+(a.length:Int)<=131072:=by omega
   clear hL j;go_wp2_with (at_builtin;refine q14 rfl _ _ 56 rfl w.heap.size t.heap.size 5 i0 (.int .u8 0) 1 underlying56 hi Z a5 a6 rfl _ L.length (u8s L) rfl y.o _ a.length (u8s a) rfl S.o (q56 a) (by unfold maxLen;omega) (by omega) (by omega) ?_);intro v' I C r;have T:qd (ScAt I b g):=vv (a3.o.grown r (fun k e=>by have:=(m k e).1;have:=n.o;omega));have U:=vv (q0e z.o r (fun k e=>(m k e).1));have V:qd (I.ownsRow w.heap.size 5 1 v' (L++a).length (u8s (L++a))):=vv (by rw[q57,k0p];exact C);have b7:qd ((L++a).length<=131072):=vv (by rw[k0p];omega);clear C r m;go_wp2;go_ret2;rw[q.o];show q2m b (L++a) a.length g w _ _;exact⟨_,rfl,V.o,T.o,U.o,b7.o,a1,a4.o⟩
theorem qdK(x:Int)(w:qh):qi qb 183 #[.int .i64 x] w fun e w'=>e=.returned (.int .i64 (q2u x))/\w=w':=by obtain⟨c,a⟩:∃c,max (-1073741824) (min x 1073741824)=c:=⟨_,rfl⟩;have b:qd (q2u x=c):=vv (by unfold q2u;exact a);go_enter func183,ntmps183;go_wp2;go_ret;exact⟨q0o (by rw[b.o]),rfl⟩
theorem q9B:∀(l:List Nat) (n:Nat),n<=68719476736->expo l n<=68719476736:=by
 intro l
 induction l with
 | nil=>intro n h;exact h
 | cons a l ih =>intro n _;exact ih _ (Nat.min_le_right _ _)
theorem q9z(l:List Nat)(d n:Nat):expo (l++[d]) n=min (10*expo l n+d) 68719476736:=by unfold expo;rw[k2n];rfl
theorem q2G(L:List Nat)(k:Nat)(h:k<L.length):L.take (k+1)=L.take k++[nth L k]:=by rw[k0E h];unfold nth;rw[k08,k0n h];rfl
theorem exponent(b:Nat)(s:St)(p:ByteArray)(w:qh)(h:ScAt w b s)(hg:Bg w)(hp:p.size<=65536):qi qb 178 #[.pointer (qe ⟨b,0,qg⟩),.string p] w (ScP b (s.exponent p.data.toList).2 (.int .i64 (s.exponent p.data.toList).1) w):=by
 have y:=vv (fold b s p w h hp);have Y:=vv h;have Z:=vv hg;cases hb:s.fold p.data.toList with
 | false =>have q:qd (s.exponent p.data.toList=(0,s)):=vv (by unfold St.exponent;rw[hb];rfl);have D:qd (s.over p=s):=vv (by unfold St.over;rw[hb];rfl);rw[hb,D.o] at y;clear h hg hb;go_enter func178,ntmps178;go_wp2_with fail;refine y.o.mono ?_;rintro e S ⟨rfl,a,c⟩;go_wp2;go_ret;rw[q.o];exact⟨rfl,a,c⟩
 | true =>
  obtain⟨m,u,E⟩:∃m u,(s.skip p.size).minus=(m,u):=⟨_,_,rfl⟩;obtain⟨L,v,F⟩:∃L v,u.must ten=(L,v):=⟨_,_,rfl⟩;have q:qd (s.exponent p.data.toList=(if m then -(expo L 0:Int) else(expo L 0:Int),v)):=vv (by unfold St.exponent;rw[hb,if_pos rfl];dsimp only;rw[q0T,E];dsimp only;rw[F]);have D:qd (s.over p=s.skip p.size):=vv (by unfold St.over;rw[hb];rfl);rw[hb,D.o] at y;have HM:=vv E;have HV:=vv F;clear h hg hb E F;go_enter func178,ntmps178;go_wp2_with fail;refine y.o.mono ?_;rintro e S ⟨rfl,a,c⟩;have U:=vv c;have I:=vv (minus b (s.skip p.size) S a);rw[HM.o] at I;clear a c;go_wp2_with fail;refine I.o.mono ?_;rintro e G ⟨rfl,a,c⟩;have J:=vv (q00 U.o c);have t:=vv (must 112 ten q7a b u G a (Z.o.grown J.o Y.o));rw[HV.o] at t;replace t:qd (qi qb 232 #[.pointer (qe ⟨b,0,qg⟩),.func (.func 112) #[] #[]] G (q1D b L v G)):=t;clear a c;go_wp2_with fail;refine t.o.mono ?_;rintro e w3 ⟨x,rfl,z,K,M,a2,N⟩;have O:=vv z;have P:=vv K;have Q:=vv (q00 J.o M);have V:=vv N;obtain⟨A,cap,rfl⟩:=q0E z;have a3:(L.length:Int)<=65536:=by omega
  clear z K M N;go_wp2;go_loop [6,18] (fun n i=>∃k:Nat,k<=L.length/\i=.int .i64 (k:Int)/\n=.int .i64 ((expo (L.take k) 0:Nat):Int)) (fun _ i=>L.length-(intOf i).toNat)
  case atStart=>exact⟨0,k0d _,rfl,rfl⟩
  case round =>
   obtain⟨k,hk,rfl,rfl⟩:=hrel;have f:=q9B (L.take k) 0 (by decide);by_cases hkl:k<L.length
   ·obtain⟨g,a0,e,a4⟩:=q26 O.o (by omega);cases e;obtain⟨r1,r2,r3,r4⟩:=q27 O.o hkl;have R:nth L k<16:=V.o _ (by unfold nth;rw[k08,k0n hkl];exact k1D hkl);have j:=(k0g (fun l=>expo l 0) (q2G L k hkl)).trans (q9z _ _ _)
    try dsimp only at j
    obtain⟨d,T⟩:=yx (nth L k);obtain⟨n,r⟩:=yx (expo (L.take k) 0);obtain⟨H,C⟩:∃H,H=expo (L.take (k+1)) 0:=⟨_,rfl⟩;rw[<- T] at r1 R j;rw[<- r] at j f ⊢;rw[<- C] at j;have a1:min (10*(n:Int)+(d:Int)) 68719476736=(H:Int):=by omega
    have HN:=vv C;have W:(n:Int)<=68719476736:=by omega
    have a5:(d:Int)<=15:=by omega
    have a6:(k:Int)<(L.length:Int):=by omega
    clear j T r C f R;go_wp2;go_round
    case rel=>exact⟨k+1,by omega,by go_num,by rw[HN.o]⟩
    case measure=>simp [intOf];omega
   ·have X:k=L.length:=by omega
    subst X;rw[k1m] at f ⊢;obtain⟨n,r⟩:=yx (expo L 0);rw[<- r] at f q ⊢;have W:(n:Int)<=68719476736:=by omega
    clear r f;cases m with
    | false =>go_wp2;go_ret;rw[q.o];exact⟨rfl,P.o,Q.o⟩
    | true =>go_wp2;go_ret;rw[q.o];exact⟨rfl,P.o,Q.o⟩
end Scn
namespace Dlx
open Go Go.RowKit Go.Proofs.YthopehoklmgphaaGreatDoor Scn
theorem must(hex:Bool)(b:Nat)(s:ByteArray)(v:St)(w:qh)(h:TxAt w b s v)(hg:Bg w):qi qb 203 #[.pointer (qe ⟨b,0,qg⟩),.bool hex] w (qbd b s (v.must (DK hex)).1 (v.must (DK hex)).2 w):=by
 have g:=vv (q1Y b s v w h);have i:=vv h;have m:=vv hg;cases hb:v.has [95] with
 | true =>have j:=vv (q7O (DK hex) hb);rw[hb] at g;clear h hg hb;go_enter func203,ntmps203;go_wp2_with fail;refine g.o.mono ?_;rintro e k ⟨rfl,c,a⟩;have H:=vv c;have d:=vv a;clear c a;go_wp2;go_ret;rw[j.o];exact⟨_,rfl,ql _ _ _ _,H.o,d.o,k0d _,fun _ h=>absurd h k0W⟩
 | false =>
  rw[hb] at g;obtain⟨L,u,n⟩:∃L u,v.row (DK hex)=(L,u):=⟨_,_,rfl⟩;have C:qd (∀W,TxAt W b s v->Bg W->qi qb 202 #[.pointer (qe ⟨b,0,qg⟩),.bool hex] W (qbd b s L u W)):=vv (fun W hT hB=>by have:=row hex b s v W hT hB (fun hc=>by rw[<- q25 hc];exact hb);rw[n] at this;exact this);have j:=vv n;clear h hg hb n;by_cases hL:L.length=0
  ·have r:L=[]:=k0s hL;have p:qd (v.must (DK hex)=([],u.fail 111)):=vv (by unfold St.must;rw[j.o];dsimp only;rw[r,if_pos rfl]);subst r;clear hL;go_enter func203,ntmps203;go_wp2_with fail;refine g.o.mono ?_;rintro e k ⟨rfl,c,a⟩;have l:=vv c;have d:=vv a;clear c a;go_wp2_with fail;refine(C.o k l.o (m.o.text d.o i.o)).mono ?_;rintro e q ⟨x,rfl,f,c,a,_,_⟩;have D:=vv (q37 f d.o.size);have t:=vv (q00 d.o a);have I:=vv (bad b s u 111 q c (m.o.text t.o i.o) (by decide));obtain⟨A,cap,rfl⟩:=q0E f;clear f c a;go_wp2_with fail;refine I.o.mono ?_;rintro e K ⟨rfl,c,a⟩;have E:=vv c;have F:=vv (q00 t.o a);have G:=vv (q0s D.o a i.o.lt);clear c a;go_wp2;go_ret;rw[p.o];exact⟨_,rfl,G.o,E.o,F.o,k0d _,fun _ h=>absurd h k0W⟩
  ·have p:qd (v.must (DK hex)=(L,u)):=vv (by unfold St.must;rw[j.o];dsimp only;rw[if_neg fun e=>hL (by rw[e];rfl)]);have M:((L.length:Int)==0)=qc:=by rw[k02];omega
   clear hL;go_enter func203,ntmps203;go_wp2_with fail;refine g.o.mono ?_;rintro e k ⟨rfl,c,a⟩;have l:=vv c;have d:=vv a;clear c a;go_wp2_with fail;refine(C.o k l.o (m.o.text d.o i.o)).mono ?_;rintro e q ⟨x,rfl,f,c,a,y,z⟩;have J:qd (qbd b s L u w (.returned x) q):=vv ⟨x,rfl,q37 f d.o.size,c,q00 d.o a,y,z⟩;obtain⟨A,cap,rfl⟩:=q0E f;clear f c a y z;go_wp2;go_ret;rw[p.o];exact J.o
def qcQ(b:Nat)(s:ByteArray)(L:List Nat)(k:Nat)(u:St)(w:qh)(e:Ending)(w':qh):Prop:=
 ∃v,e=.returned (.tuple #[v,.int .i64 (k:Int)])/\w'.ownsRow w.heap.size 5 1 v L.length (u8s L)/\TxAt w' b s u/\w.grownBy w' (qe b)/\L.length<=131072/\k<=65536/\∀d∈L,d<16
theorem parts(hex:Bool)(b:Nat)(s:ByteArray)(v:St)(w:qh)(h:TxAt w b s v)(hg:Bg w):qi qb 137 #[.pointer (qe ⟨b,0,qg⟩),.bool hex] w (qcQ b s (v.mantissa (DK hex)).1 (v.mantissa (DK hex)).2.1 (v.mantissa (DK hex)).2.2 w):=by
 obtain⟨i0,hi,b6,b7,b8⟩:=info_parts q7X;have H:=vv (q1Y b s v w h);have l:=vv h;have I:=vv hg;have d4:=h.sm;have d8:(s.size:Int)<=65536:=by omega
 cases hb:v.has [95] with
 | true =>have J:=vv (q7R (DK hex) hb);rw[hb] at H;clear h hg hb;go_enter func137,ntmps137;go_wp2_with fail;refine H.o.mono ?_;rintro e V ⟨rfl,a,c⟩;have HS:=vv a;have m:=vv c;clear a c;go_wp2;go_ret2;rw[J.o];exact⟨_,rfl,ql _ _ _ _,HS.o,m.o,k0d _,k0d _,fun _ h=>absurd h k0W⟩
 | false =>
 rw[hb] at H;obtain⟨L,u,he⟩:∃L u,v.row (DK hex)=(L,u):=⟨_,_,rfl⟩;have HR:qd (∀W,TxAt W b s v->Bg W->qi qb 202 #[.pointer (qe ⟨b,0,qg⟩),.bool hex] W (qbd b s L u W)):=vv (fun W hT f=>by have:=row hex b s v W hT f (fun hc=>by rw[<- q25 hc];exact hb);rw[he] at this;exact this);have J:=vv he;clear h hg hb he;cases hp:u.has [46] with
 | false =>
  have C:=vv (q7Q (DK hex) J.o hp);have c4:=vv hp;clear hp;go_enter func137,ntmps137;go_wp2_with fail;refine H.o.mono ?_;rintro e V ⟨rfl,a,c⟩;have Z:=vv a;have m:=vv c;clear a c;go_wp2_with fail;refine(HR.o V Z.o (I.o.text m.o l.o)).mono ?_;rintro e w2 ⟨x,rfl,j,a,c,c5,p⟩;have K:=vv (q37 j m.o.size);have D:=vv (q00 m.o c);have r:=vv a;have M:=vv p;have E:=vv (next b s u 46 w2 a);rw[show(((46:UInt8).toNat:Nat):Int)=46 from rfl,c4.o] at E;obtain⟨A,cap,rfl⟩:=q0E j;clear j a c p;by_cases hL:L.length=0
  ·have a4:L=[]:=k0s hL;subst a4;have HB:=vv fun W hW c6=>bad b s u 111 W hW c6 (by decide)
   have t:qd (v.mantissa (DK hex)=([],0,u.fail 111)):=vv (by rw[C.o,if_pos rfl]);clear hL;go_wp2_with fail;refine E.o.mono ?_;rintro e w2b ⟨rfl,f⟩;have a0:=vv (q0A K.o fun g _ hs=>f.block g hs);have a5:=vv (r.o.below f r.o.lt);have N:=vv (q00 D.o (q03 f _));clear f;go_wp2_with fail;refine(HB.o w2b a5.o (I.o.text N.o l.o)).mono ?_;rintro e X ⟨rfl,a,c⟩;have a6:=vv a;have O:=vv (q00 N.o c);have P:=vv (q0s a0.o c l.o.lt);clear a c;go_wp2;go_ret2;rw[t.o];exact⟨_,rfl,P.o,a6.o,O.o,k0d _,k0d _,fun _ h=>absurd h k0W⟩
  ·have t:qd (v.mantissa (DK hex)=(L,0,u)):=vv (by rw[C.o,if_neg fun e=>hL (by rw[e];rfl)]);have t1:((L.length:Int)==0)=qc:=by rw[k02];omega
   clear hL;go_wp2_with fail;refine E.o.mono ?_;rintro e w2b ⟨rfl,f⟩;have a0:=vv (q0A K.o fun g _ hs=>f.block g hs);have a5:=vv (r.o.below f r.o.lt);have N:=vv (q00 D.o (q03 f _));clear f;go_wp2;go_ret2;rw[t.o];exact⟨_,rfl,a0.o,a5.o,N.o,by show L.length<=131072;omega,k0d _,M.o⟩
 | true =>
  have Q:=vv hp;clear hp;go_enter func137,ntmps137;go_wp2_with fail;refine H.o.mono ?_;rintro e V ⟨rfl,a,c⟩;have Z:=vv a;have m:=vv c;clear a c;go_wp2_with fail;refine(HR.o V Z.o (I.o.text m.o l.o)).mono ?_;rintro e w2 ⟨x,rfl,j,a,c,c5,p⟩;have K:=vv (q37 j m.o.size);have D:=vv (q00 m.o c);have M:=vv p;have E:=vv (next b s u 46 w2 a);rw[show(((46:UInt8).toNat:Nat):Int)=46 from rfl,Q.o] at E;have a2:=(q2j a Q.o).1;have r:=vv a;obtain⟨A,cap,hv⟩:=q0E j;have HV:=vv hv;clear j a c p hv;go_wp2_with fail;refine E.o.mono ?_;rintro e w2b ⟨rfl,f⟩;have j:=q0A K.o fun g _ hs=>f.block g hs
  have a:=r.o.below f r.o.lt;have D:=vv (q00 D.o (q03 f _));clear f;have k1:=a.c1;have f1:=a.fz 1;have kl:=a.lt;have d9:(u.pos:Int)+1<=65536:=by omega
  obtain⟨X,R⟩:=yx (w2b.setCell ⟨b,1,qg⟩ (.int .i64 ((u.pos:Int)+1)));have a6:qd (TxAt X b s (u.skip 1)):=vv (by rw[R];exact a.skip (n:=1) (by rw[a.left];omega));have a7:w2b.grownBy X (qe b):=by rw[R];exact q0I _
  have P:=vv (q0s j a7 l.o.lt);have O:=vv (q00 D.o a7);have b9:=vv R;have S:=vv (q1Y b s (u.skip 1) X a6.o);clear j a R a7 a2;cases hb2:(u.skip 1).has [95] with
  | true =>rw[hb2] at S;have C:=vv (q3C (DK hex) J.o Q.o hb2);clear hb2;go_wp2_with (first|rw[<- b9.o]|fail);refine S.o.mono ?_;rintro e Y ⟨rfl,a,c⟩;have a8:=vv a;have F:=vv (q00 O.o c);have a1:=vv (q0s P.o c l.o.lt);clear a c k1 f1 kl;go_wp2;go_ret2;rw[C.o];exact⟨_,rfl,a1.o,a8.o,F.o,by show L.length<=131072;omega,k0d _,M.o⟩
  | false =>
   rw[hb2] at S;obtain⟨i,q,a9⟩:∃i q,(u.skip 1).row (DK hex)=(i,q):=⟨_,_,rfl⟩;have C:=vv (q7S (DK hex) J.o Q.o a9);have c7:qd (∀W,TxAt W b s (u.skip 1)->Bg W->qi qb 202 #[.pointer (qe ⟨b,0,qg⟩),.bool hex] W (qbd b s i q W)):=vv (fun W hT f=>by have:=row hex b s (u.skip 1) W hT f (fun hc=>by rw[<- q25 hc];exact hb2);rw[a9] at this;exact this);clear hb2 a9;go_wp2_with (first|rw[<- b9.o]|fail);refine S.o.mono ?_;rintro e Y ⟨rfl,a,c⟩;have a8:=vv a;have F:=vv (q00 O.o c);have a1:=vv (q0s P.o c l.o.lt);clear a c k1 f1 kl;go_wp2_with fail;refine(c7.o Y a8.o (I.o.text F.o l.o)).mono ?_;rintro e w5 ⟨x2,rfl,j,a,c,b4,p⟩;have b0:=vv (q00 F.o c);have T:=vv (q0s a1.o c l.o.lt);have b1:=vv j;have c0:=vv a;have b5:qd (∀d∈L++i,d<16):=vv (fun d h=>by
    rcases k1L.1 h with h|h
    ·exact M.o d h
    ·exact p d h)
   have e0:=c.size;have c8:=F.o.size;obtain⟨A2,d5,c2⟩:=q0E j;have c3:=vv c2;rw[c3.o] at b1;rw[HV.o] at T;clear j a c p c2;rw[c3.o,HV.o];by_cases hL:L.length+i.length=0
   ·have c9:L=[]:=k0s (by omega);have a4:i=[]:=k0s (by omega);subst c9 a4;have HB:=vv (bad b s q 111 w5 c0.o (I.o.text b0.o l.o) (by decide));have t:qd (v.mantissa (DK hex)=([],0,q.fail 111)):=vv (by rw[C.o];rfl);clear hL;go_wp2_with fail;refine HB.o.mono ?_;rintro e w6 ⟨rfl,a,c⟩;have b2:=vv a;have d6:=c.size;have b3:=vv (q00 b0.o c);have U:=vv (q0s T.o c l.o.lt);have d0:=vv (q0s b1.o c (k01 l.o.lt c8));have y:=U.o.lt;clear a c;go_wp2_with (at_builtin;refine q14 rfl _ _ 56 rfl w.heap.size Y.heap.size 5 i0 (.int .u8 0) 1 underlying56 hi b6 b7 b8 rfl _ 0 (u8s []) rfl U.o _ 0 (u8s []) rfl d0.o (q56 []) (by decide) (by decide) (by omega) ?_);intro v' w7 G z;have d1:qd (TxAt w7 b s (q.fail 111)):=vv (b2.o.grown z (fun k e=>by have:=(y k e).1;have:=l.o.lt;omega));have d2:=vv (q0e b3.o z (fun k e=>(y k e).1));have a3:=vv G;clear G z y;go_wp2;go_ret2;rw[t.o];exact⟨_,rfl,a3.o,d1.o,d2.o,k0d _,k0d _,fun _ h=>absurd h k0W⟩
   ·have t:qd (v.mantissa (DK hex)=(L++i,i.length,q)):=vv (by rw[C.o,if_neg hL]);have t1:((L.length:Int)+(i.length:Int)==0)=qc:=by rw[k02];omega
    have d7:(L.length:Int)+(i.length:Int)<=131072:=by omega
    have y:=T.o.lt;clear hL;go_wp2_with (at_builtin;refine q14 rfl _ _ 56 rfl w.heap.size Y.heap.size 5 i0 (.int .u8 0) 1 underlying56 hi b6 b7 b8 rfl _ L.length (u8s L) rfl T.o _ i.length (u8s i) rfl b1.o (q56 i) (by unfold maxLen;omega) (by omega) (by omega) ?_);intro v' w6 G z;have b2:qd (TxAt w6 b s q):=vv (c0.o.grown z (fun k e=>by have:=(y k e).1;have:=l.o.lt;omega));have b3:=vv (q0e b0.o z (fun k e=>(y k e).1));have U:qd (w6.ownsRow w.heap.size 5 1 v' (L++i).length (u8s (L++i))):=vv (by rw[q57,k0p];exact G);have d3:qd ((L++i).length<=131072):=vv (by rw[k0p];omega);clear G z y;go_wp2;go_ret2;rw[t.o];exact⟨_,rfl,U.o,b2.o,b3.o,d3.o,b4,b5.o⟩
theorem q9p:∀(l:List Nat) (n:Nat),n<=1099511627776->Lx.grow 1099511627776 l n<=1099511627776:=by
 intro l
 induction l with
 | nil=>intro n h;exact h
 | cons a l ih=>intro n _;exact ih _ (Nat.min_le_right _ _)
theorem q9o(l:List Nat)(d n:Nat):Lx.grow 1099511627776 (l++[d]) n=min (10*Lx.grow 1099511627776 l n+d) 1099511627776:=by unfold Lx.grow;rw[k2n];rfl
def q8m(m:Bool)(L:List Nat):Int:=if m then -(Lx.grow 1099511627776 L 0:Int) else(Lx.grow 1099511627776 L 0:Int)
theorem q3k(b:Nat)(s:ByteArray)(v:St)(w:qh)(h:TxAt w b s v)(hg:Bg w)(hp:v.pos<s.size):qi qb 138 #[.pointer (qe ⟨b,0,qg⟩)] w (TxP b s ((v.skip 1).minus.2.must ten).2 (.int .i64 (q8m (v.skip 1).minus.1 ((v.skip 1).minus.2.must ten).1)) w):=by
 obtain⟨m,u,z⟩:∃m u,(v.skip 1).minus=(m,u):=⟨_,_,rfl⟩;obtain⟨L,x,C⟩:∃L x,u.must ten=(L,x):=⟨_,_,rfl⟩;obtain⟨P,D⟩:=yx (q8m m L);have HE:qd (TxP b s ((v.skip 1).minus.2.must ten).2 (.int .i64 (q8m (v.skip 1).minus.1 ((v.skip 1).minus.2.must ten).1)) w=TxP b s x (.int .i64 P) w):=vv (by rw[z];dsimp only;rw[C];rw[D]);rw[HE.o];have U:=vv D;have HM:=vv z;have HV:=vv C;have HH:=vv h;have HG:=vv hg;have a3:=h.sm;have c1:=h.c1;have f1:=h.fz 1;have hl:=h.lt;have a4:(v.pos:Int)+1<=65536:=by omega
 obtain⟨E,j⟩:=yx (w.setCell ⟨b,1,qg⟩ (.int .i64 ((v.pos:Int)+1)));have V:qd (TxAt E b s (v.skip 1)):=vv (by rw[j];exact h.skip (n:=1) (by rw[h.left];omega));have W:qd (w.grownBy E (qe b)):=vv (by rw[j];exact q0I _);have X:=vv j;have p:=vv (sign b s (v.skip 1) E V.o);rw[HM.o] at p;dsimp only at p;clear h hg z C j hp D;go_enter func138,ntmps138;go_wp2_with (first|rw[<- X.o]|fail);refine p.o.mono ?_;rintro e w2 ⟨rfl,R,S⟩;have G:=vv (q00 W.o S);have q:=vv (must qc b s u w2 R (HG.o.text G.o HH.o));rw[show DK qc=ten from rfl,HV.o] at q;dsimp only at q;clear R S c1 f1 hl;go_wp2_with fail;refine q.o.mono ?_;rintro e w3 ⟨y,rfl,r,H,I,a5,J⟩;have K:=vv r;have M:=vv H;have N:=vv (q00 G.o I);have Y:=vv J;obtain⟨A,cap,rfl⟩:=q0E r;have a6:(L.length:Int)<=65536:=by omega
 clear r H I J;go_wp2;go_loop [5,6] (fun n i=>∃k:Nat,k<=L.length/\i=.int .i64 (k:Int)/\n=.int .i64 ((Lx.grow 1099511627776 (L.take k) 0:Nat):Int)) (fun _ i=>L.length-(intOf i).toNat)
 case atStart=>exact⟨0,k0d _,rfl,rfl⟩
 case round =>
  obtain⟨k,hk,rfl,rfl⟩:=hrel;have c:=q9p (L.take k) 0 (by decide);by_cases hkl:k<L.length
  ·obtain⟨g,a1,e,a7⟩:=q26 K.o (by omega);cases e;obtain⟨r1,r2,r3,r4⟩:=q27 K.o hkl;have O:nth L k<16:=Y.o _ (by unfold nth;rw[k08,k0n hkl];exact k1D hkl);have f:=(k0g (fun l=>Lx.grow 1099511627776 l 0) (q2G L k hkl)).trans (q9o _ _ _)
   try dsimp only at f
   obtain⟨d,T⟩:=yx (nth L k);obtain⟨n,a⟩:=yx (Lx.grow 1099511627776 (L.take k) 0);obtain⟨F,t⟩:∃F,F=Lx.grow 1099511627776 (L.take (k+1)) 0:=⟨_,rfl⟩;rw[<- T] at r1 O f;rw[<- a] at f c ⊢;rw[<- t] at f;have a2:min (10*(n:Int)+(d:Int)) 1099511627776=(F:Int):=by omega
   have HN:=vv t;have Z:(n:Int)<=1099511627776:=by omega
   have a8:(d:Int)<=15:=by omega
   have a9:(k:Int)<(L.length:Int):=by omega
   clear f T a t c O;go_wp2;go_round
   case rel=>exact⟨k+1,by omega,by go_num,by rw[HN.o]⟩
   case measure=>simp [intOf];omega
  ·have a0:k=L.length:=by omega
   subst a0;rw[k1m] at c ⊢;obtain⟨n,a⟩:=yx (Lx.grow 1099511627776 L 0);rw[<- a] at c ⊢;have Z:(n:Int)<=1099511627776:=by omega
   have Q:qd (P=if m then -(n:Int) else(n:Int)):=vv (by rw[U.o];unfold q8m;rw[<- a]);clear a c;cases m with
   | false =>go_wp2;go_ret;exact⟨by rw[Q.o];rfl,M.o,N.o⟩
   | true =>go_wp2;go_ret;exact⟨by rw[Q.o];rfl,M.o,N.o⟩
def Wd(p:ByteArray):Prop:=∀k (h:k<p.size),(97<=p[k].toNat/\p[k].toNat<=122)\/p[k].toNat<65
theorem qeV(b:Nat)(s:ByteArray)(v:St)(p:ByteArray)(w:qh)(h:TxAt w b s v)(hc:v.code=0)(hw:Wd p)(hps:p.size<=65536):qi qb 86 #[.pointer (qe ⟨b,0,qg⟩),.string p] w
   (TxP b s (if v.fold p.data.toList then v.skip p.size else v) (.bool (v.fold p.data.toList)) w):=by
 obtain⟨Ff,I⟩:=yx (v.fold p.data.toList);obtain⟨U,O⟩:=yx (if Ff then v.skip p.size else v);rw[<- I,<- O];have J:=vv I;have P:=vv O;have Q:=vv h;have HC:=vv hc;have HW:=vv hw;have c1:=h.c1;have hl:=h.lt;have a5:=h.sm;have a6:=h.le;have a7:(p.size:Int)<=65536:=by omega
 have H0:qd (TxAt w b s (v.skip 0)):=vv (by
  have e:v.skip 0=v:=by obtain⟨r,q,c⟩:=v;show St.mk (drop r 0) (q+0) c=_;rw[drop_zero];rfl
  rw[e];exact h)
 clear h hc hw I O;go_enter func86,ntmps86;go_wp2;clear c1;go_loopw [6] (fun t wr=>∃k:Nat,k<=p.size/\t=.int .i64 (k:Int)/\TxAt wr b s (v.skip k)/\w.grownBy wr (qe b)/\k<=v.rest.size/\v.fold p.data.toList=(v.skip k).fold (p.data.toList.drop k)) (fun t _=>p.size-(intOf t).toNat)
 case atStart=>exact⟨0,k0d _,rfl,H0.o,qk _ _,k0d _,by
  have e:v.skip 0=v:=by obtain⟨r,q,c⟩:=v;show St.mk (drop r 0) (q+0) c=_;rw[drop_zero];rfl
  rw[e,k0L]⟩
 case round =>
  obtain⟨k,hk,rfl,x,R,a8,hf⟩:=hrel;have f:=vv x;have D:=vv R;have HF:=vv hf;have g:=x.c1;have j:=x.fz 1;have l:=x.lt;have S:=x.le;have z:((v.skip k).pos:Int)=(v.pos:Int)+(k:Int):=by show((v.pos+k:Nat):Int)=_;omega
  rw[z] at g;have a3:v.pos+k<=s.size:=S;clear x R hf S;by_cases G:k<p.size
  ·have K:=q9u f.o p k G;have y:=vv (next b s (v.skip k) p[k] wr f.o);have T:qd (v.fold p.data.toList=((v.skip k).fold [p[k]] && ((v.skip k).skip 1).fold (p.data.toList.drop (k+1)))):=vv (HF.o.trans K);have V:qd ((v.skip k).skip 1=v.skip (k+1)):=vv (by show St.mk (drop (drop v.rest k) 1) (v.pos+k+1) v.code=St.mk (drop v.rest (k+1)) (v.pos+(k+1)) v.code;rw[drop_drop,k1F]);have Z:qd (∀W,TxAt W b s (v.skip k)->TxAt (W.setCell ⟨b,1,qg⟩ (.int .i64 (v.pos:Int))) b s v):=vv (fun W hW=>hW.back Q.o.rest Q.o.le rfl);obtain⟨X,u⟩:∃X,(v.skip k).fold [p[k]]=X:=⟨_,rfl⟩;have H:=fun(hq:(v.skip k).fold [p[k]'G]=qf)=>(q4f f.o (c:=p[k]'G) hq).1
   have a0:qd (X=qf->(∀W,TxAt W b s (v.skip k)->TxAt (W.setCell ⟨b,1,qg⟩ (.int .i64 ((v.pos:Int)+(k:Int)+1))) b s (v.skip (k+1)))/\k+1<=v.rest.size):=vv (fun hx=>by rw[u] at H;have hr:v.pos+k<s.size:=H hx;refine⟨fun W hW=>?_,by rw[Q.o.left];omega⟩;have e:=hW.skip (n:=1) (by rw[hW.left];show 1<=s.size-(v.pos+k);omega);rw[V.o] at e;rw[show(((v.skip k).pos:Int)+((1:Nat):Int))=(v.pos:Int)+(k:Int)+1 by show((v.pos+k:Nat):Int)+_=_;omega] at e;exact e);have a9:(v.pos:Int)+(k:Int)<=65536:=by omega
   have a2:qd (X=qc->v.fold p.data.toList=qc):=vv (fun hx=>by rw[T.o,u,hx];rfl);have a1:qd (X=qf->v.fold p.data.toList=(v.skip (k+1)).fold (p.data.toList.drop (k+1))):=vv (fun hx=>by rw[T.o,u,hx,V.o];rfl);rcases HW.o k G with hw|hw
   ·have L:=vv fun W hW=>q4R b s (v.skip k) p[k] W hW hw.1 hw.2
    rw[u] at L;have t1:(97:Int)<=(p[k].toNat:Int):=by omega
    obtain⟨Y,hY⟩:∃Y,(v.skip k).has [p[k]]=Y:=⟨_,rfl⟩;rw[hY] at y;clear K u hY H hw;cases X with
    | true =>
     have C:=vv (a0.o rfl);have M:=vv (a1.o rfl);go_wp2_with fail;refine y.o.mono ?_;rintro e E ⟨rfl,a⟩;have d:=vv (f.o.below a f.o.lt);have m:=vv (q00 D.o (q03 a _));clear a;go_wp2_with fail;refine(L.o E d.o).mono ?_;rintro e w2 ⟨rfl,a⟩;have i:=vv (d.o.below a d.o.lt);have N:=vv (q00 m.o (q03 a _));clear a g j l;have g:=i.o.c1;have j:=i.o.fz 1;have l:=i.o.lt;rw[z] at g;go_wp2;go_roundw
     case rel=>exact⟨k+1,by omega,by go_num,C.o.1 _ i.o,q00 N.o (q0I _),C.o.2,M.o⟩
     case measure=>simp [intOf];omega
    | false =>have F:=vv (a2.o rfl);go_wp2_with fail;refine y.o.mono ?_;rintro e E ⟨rfl,a⟩;have d:=vv (f.o.below a f.o.lt);have m:=vv (q00 D.o (q03 a _));clear a;go_wp2_with fail;refine(L.o E d.o).mono ?_;rintro e w2 ⟨rfl,a⟩;have i:=vv (d.o.below a d.o.lt);have N:=vv (q00 m.o (q03 a _));clear a g j l;have g:=i.o.c1;have j:=i.o.fz 1;have l:=i.o.lt;rw[z] at g;go_wp2;go_ret;rw[P.o,J.o,F.o];exact⟨rfl,Z.o _ i.o,q00 N.o (q0I _)⟩
   ·have hs:=f.o.has_sign p[k] (.inl hw);rw[hs,u] at y;have t1:¬(97:Int)<=(p[k].toNat:Int):=by omega
    clear K u H hw hs;cases X with
    | true =>
     have C:=vv (a0.o rfl);have M:=vv (a1.o rfl);go_wp2_with fail;refine y.o.mono ?_;rintro e E ⟨rfl,a⟩;have d:=vv (f.o.below a f.o.lt);have m:=vv (q00 D.o (q03 a _));clear a g j l;have g:=d.o.c1;have j:=d.o.fz 1;have l:=d.o.lt;rw[z] at g;go_wp2;go_roundw
     case rel=>exact⟨k+1,by omega,by go_num,C.o.1 _ d.o,q00 m.o (q0I _),C.o.2,M.o⟩
     case measure=>simp [intOf];omega
    | false =>have F:=vv (a2.o rfl);go_wp2_with fail;refine y.o.mono ?_;rintro e E ⟨rfl,a⟩;have d:=vv (f.o.below a f.o.lt);have m:=vv (q00 D.o (q03 a _));clear a g j l;have g:=d.o.c1;have j:=d.o.fz 1;have l:=d.o.lt;rw[z] at g;go_wp2;go_ret;rw[P.o,J.o,F.o];exact⟨rfl,Z.o _ d.o,q00 m.o (q0I _)⟩
  ·have a4:k=p.size:=by omega
   subst a4;have F:qd (v.fold p.data.toList=qf):=vv (by rw[HF.o,List.drop_eq_nil_of_le (by rw[q0T];exact lr)];exact q9t HC.o);go_wp2;go_ret;rw[P.o,J.o,F.o];exact⟨rfl,f.o,D.o⟩
theorem q8C(v:St)(a n:Nat):(v.skip a).skip n=v.skip (a+n):=by show St.mk (drop (drop v.rest a) n) (v.pos+a+n) v.code=St.mk (drop v.rest (a+n)) (v.pos+(a+n)) v.code;rw[drop_drop,k1F]
theorem q5L(v:St):v.skip 0=v:=by obtain⟨r,q,c⟩:=v;show St.mk (drop r 0) (q+0) c=_;rw[drop_zero];rfl
def qfh(b:Nat)(s:ByteArray)(v:St)(w:qh)(e:Ending)(w':qh):Prop:=
 ∃n:Nat,e=.returned (.int .u64 (n:Int))/\TxAt w' b s v.payload.2/\w.grownBy w' (qe b)/\n<=4503599627370496/\(v.payload.2.code=0->n=v.payload.1)
theorem q9x{c:Nat}(hc:c≠0)(v:St):(v.fail c).code≠0:=by
 unfold St.fail;split
 ·split
  ·show(114:Nat)≠0;decide
  ·exact hc
 ·assumption
theorem payload(b:Nat)(s:ByteArray)(v:St)(w:qh)(h:TxAt w b s v)(hg:Bg w)(hc:v.code=0):qi qb 90 #[.pointer (qe ⟨b,0,qg⟩)] w (qfh b s v w):=by
 have O:=vv (next b s v 40 w h);rw[show(((40:UInt8).toNat:Nat):Int)=40 from rfl] at O;have H:=vv h;have b6:=vv hg;cases hb:v.has [40] with
 | false =>rw[hb] at O;have i:qd (v.payload=(0,v)):=vv (by unfold St.payload;rw[hb];rfl);clear h hg hc hb;go_enter func90,ntmps90;go_wp2_with fail;refine O.o.mono ?_;rintro e w1 ⟨rfl,c⟩;have H1:=vv (H.o.below c H.o.lt);have G1:=vv (q03 c (qe b));clear c;go_wp2;go_ret;exact⟨0,rfl,by rw[i.o];exact H1.o,G1.o,k0d _,fun _=>by rw[i.o]⟩
 | true =>
  rw[hb] at O;obtain⟨T,R⟩:=yx (q0G (v.skip 1).rest);have a1:=(q2j h hb).1;have e3:=h.sm;have HP:qd (v.payload=(if T=[] then(0,(v.skip 1).fail 111) else if 2251799813685247<q12 T then(0,(v.skip 1).put 115) else(q12 T,if((v.skip 1).skip T.length).has [41] then((v.skip 1).skip T.length).skip 1 else((v.skip 1).skip T.length).fail 113))):=vv (by unfold St.payload;rw[hb,if_pos rfl,R]);have b7:(v.skip 1).rest=drop s (v.pos+1):=by show drop v.rest 1=_;rw[h.rest,drop_drop]
  rw[b7] at R;have S:=vv R;have l:v.pos+1+T.length<=s.size:=by rw[R];exact Lx.fig_len s (v.pos+1) (by omega)
  have e4:(v.pos:Int)+1<=65536:=by omega
  have e5:v.pos+1<=s.size:=by omega
  have HC:=vv hc;clear h hg hc hb R b7 a1;go_enter func90,ntmps90;go_wp2_with fail;refine O.o.mono ?_;rintro e w0 ⟨rfl,c⟩;have U:=vv (H.o.below c H.o.lt);have G0:=vv (q03 c (qe b));have g:=U.o.c1;have p:=U.o.fz 1;have hl:=U.o.lt;obtain⟨w1,D⟩:=yx (w0.setCell ⟨b,1,qg⟩ (.int .i64 ((v.pos:Int)+1)));have I:qd (TxAt w1 b s (v.skip 1)):=vv (by rw[D];exact U.o.skip (n:=1) (by rw[U.o.left];omega));have c3:qd (w.grownBy w1 (qe b)):=vv (by rw[D];exact q00 G0.o (q0I _));have c4:=vv D;have k1:=I.o.c1;have q:=I.o.lt;rw[show((v.skip 1).pos:Int)=(v.pos:Int)+1 by show((v.pos+1:Nat):Int)=_;omega] at k1;clear D c;go_wp2_with (first|rw[<- c4.o]|fail);clear k1 q g p hl;go_loopw [4] (fun t wr=>∃k:Nat,k<=T.length/\t=.int .u64 ((min (q12 (T.take k)) 4503599627370496:Nat):Int)/\TxAt wr b s ((v.skip 1).skip k)/\w.grownBy wr (qe b)) (fun _ wr=>q2R wr b)
  case atStart=>exact⟨0,k0d _,rfl,by rw[q5L];exact I.o,c3.o⟩
  case round =>
   obtain⟨k,r,rfl,E,b8⟩:=hrel;have a:=vv E;have x:=vv b8;have c0:=E.c0;have g:=E.c1;have p:=E.fz 1;have q:=E.lt;obtain⟨P,f⟩:=yx (v.pos+1+k);rw[show((((v.skip 1).skip k).pos:Nat):Int)=(P:Int) by rw[f];rfl] at g;have e6:(s.size:Int)<=65536:=by omega
   clear E b8;by_cases hkl:k<T.length
   ·
    obtain⟨c5,a6,a7,a8⟩:=Lx.fig_more s (v.pos+1) k (by omega) (by rw[<- S.o];exact hkl);rw[<- S.o] at a8;have a9:=Lx.worth10_take T k _ a8;have hks:P<s.size:=by omega
    have a3:s[v.pos+1+k]=s[P]:=by simp only[f]
    rw[a3] at a6 a7 a9;obtain⟨d,X⟩:∃d,s[P].toNat=d:=⟨_,rfl⟩;rw[X] at a6 a7 a9;obtain⟨n,hn⟩:=yx (min (q12 (T.take k)) 4503599627370496);obtain⟨n',b9⟩:∃n',n'=min (q12 (T.take (k+1))) 4503599627370496:=⟨_,rfl⟩;obtain⟨e,he⟩:∃e,e+48=d:=⟨d-48,by omega⟩;obtain⟨M,j⟩:=yx (10*n);obtain⟨Q,hQ⟩:=yx (M+e);have b3:n<=4503599627370496:=by omega
    have b4:min (Q:Int) 4503599627370496=(n':Int):=by omega
    have D:IntKind.u8.wrap ((d:Int)-48)=(e:Int):=by rw[IntKind.wrap_u8];omega
    have c6:IntKind.u64.wrap (e:Int)=(e:Int):=by rw[qj];omega
    have c7:IntKind.u64.wrap (10*(n:Int))=(M:Int):=by rw[qj];omega
    have c8:IntKind.u64.wrap ((M:Int)+(e:Int))=(Q:Int):=by rw[qj];omega
    have g1:qa ((P:Int)<(s.size:Int))=qf:=k03 (by omega);have a4:qa (P<s.size)=qf:=k03 (by omega);have g2:qa ((48:Int)<=(d:Int))=qf:=k03 (by omega);have b0:qa (48<=d)=qf:=k03 (by omega);have g3:qa ((d:Int)<=57)=qf:=k03 (by omega);have c2:qa (d<=57)=qf:=k03 (by omega);have b1:(P:Int)<(s.size:Int):=by omega
    have e7:IntKind.i64.wrap ((P:Int)+1)=(P:Int)+1:=by rw[IntKind.wrap_i64];omega
    rw[<- hn];have c9:=vv b9;have a0:qd (∀W,TxAt W b s ((v.skip 1).skip k)->TxAt (W.setCell ⟨b,1,qg⟩ (.int .i64 ((P:Int)+1))) b s ((v.skip 1).skip (k+1))):=vv (fun W hW=>by have e:=hW.skip (n:=1) (by rw[hW.left];show 1<=s.size-(v.pos+1+k);omega);rw[q8C (v.skip 1) k 1,show((((v.skip 1).skip k).pos:Nat):Int)=(P:Int) by rw[f];rfl] at e;exact e);have F:qd (((((v.skip 1).skip k).pos:Nat):Int)=(P:Int)):=vv (by rw[f];rfl);have d0:qd (∀W,TxAt W b s ((v.skip 1).skip (k+1))->q2R W b<q2R wr b):=vv (fun W hW=>by rw[q2a hW,q2a a.o];show 65536-(v.pos+1+(k+1))<65536-(v.pos+1+k);omega);have HK:=vv hkl;clear a9 c5 a6 a7 a8 hn b9 a3 f hkl he j hQ b3 l r;go_wp2;go_quiet (fail);go_wp2_with fail;refine q02 (fun w'=>w'.cell? ⟨b,0,qg⟩=qe (.string s)/\w'.cell? ⟨b,1,qg⟩=qe (.int .i64 (P:Int))) 15
     (.still 0 (.still 1 (.still 2 (.still 3 (.still 4 (.still 5 (.still 6 (.still 7 (.still 8 (.still 9 (.still 10 (.still 11 (.still 12 (.still 13 (.still 14 .done))))))))))))))) (by kernel_rfl) (by kernel_rfl) (fun _ _ d _ _ h=>by cases d<;>exact h) ⟨c0,g⟩ (fun hS0=>?_)
    iterate 15
     refine q01 (v:=?_) rfl (by rfl) ?_ ?_;rotate_left
     ·intro w e8;go_simp;with_reducible rfl
     simp only[Act.put,sa,sb,sc]
    refine q0a ?_;simp only[k0P,k0L];obtain⟨V,C⟩:=yx ((wr.drewN nq).drew);have z:Below wr.heap.size wr V:=by rw[C];exact q07 (q0g (Below.refl _ _) _)
    rw[<- C];have J:=vv (a.o.below z a.o.lt);have d1:=vv (q00 x.o (q03 z (qe b)));clear hS0 C z c0 g p q D c6 c7 c8 b4 g1 a4 g2 b0 g3 c2;have g:=J.o.c1;have p:=J.o.fz 1;have q:=J.o.lt;rw[F.o] at g;go_wp2;go_roundw
    case rel=>exact⟨k+1,HK.o,by rw[<- c9.o],a0.o _ J.o,q00 d1.o (q0I _)⟩
    case measure=>exact d0.o _ (a0.o _ J.o)
   ·have d2:k=T.length:=by omega
    subst d2;have a2:(s.size:Int)<=(P:Int)\/∃hks:P<s.size,(s[P].toNat:Int)<48\/(48:Int)<=(s[P].toNat:Int)/\(57:Int)<(s[P].toNat:Int):=by
     by_cases hks:P<s.size
     ·right;refine⟨hks,?_⟩;have h2:=Lx.fig_end s (v.pos+1) (by rw[<- S.o];omega);have a3:s[v.pos+1+(q0G (drop s (v.pos+1))).length]'(by rw[<- S.o];omega)=s[P]:=by simp only[f,S.o]
      rw[a3] at h2;omega
     ·left;omega
    have F:qd (((((v.skip 1).skip T.length).pos:Nat):Int)=(P:Int)):=vv (by rw[f];rfl);rw[k1m];obtain⟨N,y⟩:=yx (q12 T);rw[<- y] at HP ⊢;obtain⟨M,j⟩:=yx (min N 4503599627370496);rw[<- j];have e9:(M:Int)<=4503599627370496:=by omega
    have e2:(P:Int)<=65536:=by omega
    have d3:=vv (And.intro f (And.intro y (And.intro j (And.intro l r))));clear f y j l r;rcases a2 with h1|⟨hks,h1|⟨h1,h2⟩⟩
    focus
     have g1:qa ((P:Int)<(s.size:Int))=qc:=k00 (by omega);have a4:qa (P<s.size)=qc:=k00 (by omega);go_wp2;go_quiet (fail)
    rotate_left
    focus
     obtain⟨d,X⟩:∃d,s[P].toNat=d:=⟨_,rfl⟩;rw[X] at h1;have b1:(P:Int)<(s.size:Int):=by omega
     have g1:qa ((P:Int)<(s.size:Int))=qf:=k03 (by omega);have a4:qa (P<s.size)=qf:=k03 (by omega);have g2:qa ((48:Int)<=(d:Int))=qc:=k00 (by omega);have b0:qa (48<=d)=qc:=k00 (by omega);go_wp2;go_quiet (fail)
    rotate_left
    focus
     obtain⟨d,X⟩:∃d,s[P].toNat=d:=⟨_,rfl⟩;rw[X] at h1 h2;have b1:(P:Int)<(s.size:Int):=by omega
     have g1:qa ((P:Int)<(s.size:Int))=qf:=k03 (by omega);have a4:qa (P<s.size)=qf:=k03 (by omega);have g2:qa ((48:Int)<=(d:Int))=qf:=k03 (by omega);have b0:qa (48<=d)=qf:=k03 (by omega);have g3:qa ((d:Int)<=57)=qc:=k00 (by omega);have c2:qa (d<=57)=qc:=k00 (by omega);go_wp2;go_quiet (fail)
    rotate_left;all_goals
     obtain⟨V,C⟩:=yx (wr.drewN nq);have z:Below wr.heap.size wr V:=by rw[C];exact q0g (Below.refl _ _) _
     rw[<- C];have a:=vv (a.o.below z a.o.lt);have x:=vv (q00 x.o (q03 z (qe b)));clear C z c0 g p q;have g:=a.o.c1;have p:=a.o.fz 1;have q:=a.o.lt;rw[F.o] at g;obtain⟨f,y,j,l,r⟩:=d3.o;have b5:=vv (b6.o.text x.o H.o);by_cases hz:T.length=0
     ·have m:T=[]:=k0s hz;have i:qd (v.payload=(0,(v.skip 1).fail 111)):=vv (by rw[HP.o,if_pos m]);have hv:(P:Int)=(v.pos:Int)+1:=by omega
      have Y:=vv (bad b s (v.skip 1) 111 V (by have:=a.o;rw[hz,q5L] at this;exact this) b5.o (by decide));have t9:((P:Int)==(v.pos:Int)+1)=qf:=by rw[hv];exact beq_self_eq_true _
      clear l r y j f hz m hv;go_wp2_with fail;refine Y.o.mono ?_;rintro e w2 ⟨rfl,Z,hG⟩;go_wp2;go_ret;exact⟨0,rfl,by rw[i.o];exact Z,q00 x.o hG,k0d _,fun _=>by rw[i.o]⟩
     ·have m:T≠[]:=fun e=>hz (by rw[e];rfl)
      have t9:((P:Int)==(v.pos:Int)+1)=qc:=by rw[k02];omega
      by_cases hbig:2251799813685247<N
      ·have i:qd (v.payload=(0,(v.skip 1).put 115)):=vv (by rw[HP.o,if_neg m,if_pos hbig]);have d4:(2251799813685247:Int)<(M:Int):=by omega
       have d5:qd (TxAt (V.setCell ⟨b,1,qg⟩ (.int .i64 ((v.pos:Int)+1))) b s (v.skip 1)):=vv (by have e:=a.o.back (u:=v.skip 1) I.o.rest I.o.le rfl;rw[show(((v.skip 1).pos:Nat):Int)=(v.pos:Int)+1 by show((v.pos+1:Nat):Int)=_;omega] at e;exact e);have d6:=vv (q00 x.o (q0I (w:=V) (b:=b) (.int .i64 ((v.pos:Int)+1))));have Y:=vv (q6K b s (v.skip 1) 115 _ d5.o HC.o (.inr rfl));clear l r y j f hz m hbig;go_wp2_with fail;refine Y.o.mono ?_;rintro e w2 ⟨rfl,Z,hG⟩;go_wp2;go_ret;exact⟨0,rfl,by rw[i.o];exact Z,q00 d6.o hG,k0d _,fun _=>by rw[i.o]⟩
      ·have b2:M=N:=by omega
       have d4:qa ((2251799813685247:Int)<(M:Int))=qc:=k00 (by omega);have f0:¬(2251799813685247:Int)<(M:Int):=by omega
       have K:=vv (next b s ((v.skip 1).skip T.length) 41 V a.o);rw[show(((41:UInt8).toNat:Nat):Int)=41 from rfl] at K;have i:qd (v.payload=(N,if((v.skip 1).skip T.length).has [41] then((v.skip 1).skip T.length).skip 1 else((v.skip 1).skip T.length).fail 113)):=vv (by rw[HP.o,if_neg m,if_neg hbig]);have d7:=vv b2;cases hb2:((v.skip 1).skip T.length).has [41] with
       | true =>
        rw[hb2] at K;have hr:=(q2j a.o hb2).1;have L:qd (v.payload=(N,((v.skip 1).skip T.length).skip 1)):=vv (by rw[i.o,hb2];rfl);have b1:(P:Int)+1<=65536:=by have:v.pos+1+T.length<s.size:=hr;omega
        have F:qd (((((v.skip 1).skip T.length).pos:Nat):Int)=(P:Int)):=vv (by rw[f];rfl);have d8:qd (∀W,TxAt W b s ((v.skip 1).skip T.length)->TxAt (W.setCell ⟨b,1,qg⟩ (.int .i64 ((P:Int)+1))) b s (((v.skip 1).skip T.length).skip 1)):=vv (fun W hW=>by have e:=hW.skip (n:=1) (by rw[hW.left];have:v.pos+1+T.length<s.size:=hr;show 1<=s.size-(v.pos+1+T.length);omega);rw[F.o] at e;exact e);have d9:qd (M<=4503599627370496):=vv (by omega);clear l r y j f hz m hbig b2 hb2 hr;go_wp2_with fail;refine K.o.mono ?_;rintro e w1b ⟨rfl,c⟩;have G:=vv (a.o.below c a.o.lt);have a5:=vv (q00 x.o (q03 c (qe b)));clear c g p q;have g:=G.o.c1;have p:=G.o.fz 1;have q:=G.o.lt;rw[F.o] at g;go_wp2;go_ret;exact⟨M,rfl,by rw[L.o];exact d8.o _ G.o,q00 a5.o (q0I _),d9.o,fun _=>by rw[L.o];exact d7.o⟩
       | false =>
        rw[hb2] at K;have L:qd (v.payload=(N,((v.skip 1).skip T.length).fail 113)):=vv (by rw[i.o,hb2];rfl);have Y:=vv fun W hW e0=>bad b s ((v.skip 1).skip T.length) 113 W hW e0 (by decide)
        have e1:qd ((((v.skip 1).skip T.length).fail 113).code≠0):=vv (q9x (by decide) _);clear l r y j f hz m hbig b2 hb2;go_wp2_with fail;refine K.o.mono ?_;rintro e w1b ⟨rfl,c⟩;have G:=vv (a.o.below c a.o.lt);have a5:=vv (q00 x.o (q03 c (qe b)));clear c;go_wp2_with fail;refine(Y.o w1b G.o (b6.o.text a5.o H.o)).mono ?_;rintro e w2 ⟨rfl,Z,hG⟩;go_wp2;go_ret;exact⟨0,rfl,by rw[L.o];exact Z,q00 a5.o hG,k0d _,fun h=>absurd (by rw[L.o] at h;exact h) e1.o⟩
end Dlx
end Go.Proofs.YthopehoklmgphaaGreatDoor
