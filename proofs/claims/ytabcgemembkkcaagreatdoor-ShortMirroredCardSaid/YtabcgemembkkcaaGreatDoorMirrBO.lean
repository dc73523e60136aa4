/- Lemmas. -/
import Derived.Test.YtabcgemembkkcaaGreatDoorMirrBM
import Derived.Test.YtabcgemembkkcaaGreatDoorMirrBB
set_option linter.all false
set_option maxHeartbeats 8000000
set_option maxRecDepth 100000
open Go.Proofs.Tryz
open Decidable renaming decide->qa
namespace Go.Proofs.YtabcgemembkkcaaGreatDoor
namespace Sh
open Go
def leV:List Nat->Nat
 | []=>0
 | d::D=>d+10*leV D
theorem q8N(D:List Nat)(d:Nat):leV (D++[d])=leV D+10^D.length*d:=by
 induction D with
 | nil=>simp [leV]
 | cons x D ih =>show x+10*leV (D++[d])=x+10*leV D+10^(D.length+1)*d;rw[ih,k0a];grind
theorem q4z(D:List Nat)(n:Nat)(h:∀i,n<=i->i<D.length->nth D i=0):leV D=leV (D.take n):=by
 induction D generalizing n with
 | nil=>simp
 | cons x D ih =>
  cases n with
  | zero =>have a:x=0:=h 0 (k0x _) (by simp);have:=ih 0 (fun i hi hl=>h (i+1) (by omega) (by simpa using hl));rw[k2I] at this ⊢;show x+10*leV D=0;rw[a,this];rfl
  | succ n =>have:=ih n (fun i hi hl=>h (i+1) (by omega) (by simpa using hl));show x+10*leV D=x+10*leV (D.take n);rw[this]
theorem q7p:∀(D:List Nat),0<D.length->nth D (D.length-1)≠0->0<leV D
 | [],h,_=>absurd h (by decide)
 | [d],_,h=>by have:d≠0:=h;show 0<d+10*0;omega
 | d::x::D,_,h=>by have:=q7p (x::D) (by simp) h;show 0<d+10*leV (x::D);omega
theorem q9o:∀(D:List Nat),(∀d∈D,d<10)->0<D.length->nth D (D.length-1)≠0->(D.map fun d=>UInt8.ofNat (48+d)).reverse=Lib.decDigits (leV D)
 | [],_,h,_=>absurd h (by decide)
 | [d],hd,_,h=>by have h1:d<10:=hd d (by simp);show[UInt8.ofNat (48+d)]=Lib.decDigits (d+10*0);rw[k1n,k14,q1R h1]
 | d::x::D,hd,_,h=>by have h1:d<10:=hd d (by simp);have hp:=q7p (x::D) (by simp) h;have ih:=q9o (x::D) (fun y hy=>hd y (List.mem_cons_of_mem _ hy)) (by simp) h;rw[List.map_cons,List.reverse_cons,ih];show _=Lib.decDigits (d+10*leV (x::D));rw[q3n (N:=d+10*leV (x::D)) (by omega),show(d+10*leV (x::D))/10=leV (x::D) by omega,show(d+10*leV (x::D))%10=d by omega]
end Sh
namespace Pnt
open Go Go.RowKit R5 Scn Sh
theorem small(A:Option Addr)(n c d:Nat)(xs:List Nat)(w:World)(ha:Rd w A n c xs)(hn:n<=16384)(hd:0<d)(hd':d<4294967296):Calls Tryz.prog 297 #[.slice A n c,.int .u32 (d:Int)] w fun e w'=>e=.returned (.tuple #[.slice (some ⟨w.heap.size,0,none⟩) n n,.int .u32 ((val xs%d:Nat):Int)])/\(∃V,Own w' w.heap.size 54 V/\V.length=n/\val V=val xs/d)/\Below w.heap.size w w':=by
 have Z:=Go.Proofs.YtabcgemembkkcaaGreatDoor.AB.mk n (by omega);have a2:(n:Int)<=16384:=by omega
 have S:=vv fun r x W (m:r<d) (h2:x<4294967296)=>qcB r x d W m h2 hd'
 go_enter func297,ntmps297;go_wp2;go_loopw [7,8] (fun q i wr=>∃(k:Nat) (z:Int) (r:Nat) (V:List Nat),i=.int .i64 z/\z+1=k/\k<=n/\q=.int .u32 r/\r<d/\r=(val xs/4294967296^k)%d/\V.length=n/\Own wr w.heap.size 54 V /\(∀j,k<=j->nth V j=(val xs/d)/4294967296^j%4294967296)/\Below w.heap.size w wr) (fun _ i _=>(intOf i+1).toNat)
 case atStart =>
  have T:val xs/4294967296^n=0:=k0N ha.lt;refine⟨n,_,0,List.replicate n 0,rfl,by omega,lr,rfl,hd,by rw[T];simp,by simp,Own.made _ _ _,fun j hj=>?_,(Below.refl _ _).alloc lr _⟩;have m:val xs/d/4294967296^j=0:=by rw[k0p,k0b,<- k0p,k0N (q1E ha.lt hj)];simp
  rw[m,q0O]
 case round =>
  obtain⟨k,z,r,V,rfl,G,hk,rfl,H,t,u,a,v,l⟩:=hrel;have I:=vv t;have g:=vv u;have s:=vv v;have J:=vv a;clear t u v;rcases k01 k with rfl|a0
  ·obtain rfl:z = -1:=by omega
   clear G;have K:val V=val xs/d:=by
    have:=q1k (U:=V) (Q:=val xs/d) fun i _=>s.o i (k0x _)
    rw[this,g.o];exact k0u (k0F (k0e _ _) ha.lt)
   have X:=vv K;clear K;have y:val xs%d=r:=by have:=I.o;rw[k0J,k1m] at this;exact this.symm
   have N:=vv y;clear y a;go_wp2;go_ret2;refine⟨?_,⟨V,J.o,g.o,X.o⟩,l⟩;rw[N.o];first|rfl|simp
  ·obtain⟨j,rfl⟩:∃j,k=j+1:=⟨k-1,by omega⟩;obtain rfl:z=(j:Int):=by omega
   clear G;obtain⟨b,off,rfl,C,E⟩:=ha.cell (by omega);have hx:wr.cell? ⟨b,off+j,none⟩=some (.int .u32 ((nth xs j:Nat):Int)):=(l.cell (p:=⟨b,off+j,none⟩) C).trans (E j (by omega));clear E;have F:=ha.nth_lt j;have L:=a.cell (i:=j) (by rw[g.o];omega);have M:=a.frozen j;have f:=a.lt;have a3:=vv f;have D:=vv (Go.Proofs.YtabcgemembkkcaaGreatDoor.divs_step (V:=V) hd H F (fun q hq=>s.o q hq) I.o ha.lim);have a1:b<wr.heap.size:=k02 C l.size;have O:=vv l;clear a;go_wp2_with fail;refine(S.o r (nth xs j) _ H F).mono ?_;rintro e Y ⟨rfl,h⟩;have a4:=(h.cell (p:=⟨w.heap.size,j,none⟩) f).trans L;have a5:=(h.frozen (p:=⟨w.heap.size,j,none⟩) f).trans M;have a6:w.heap.size<Y.heap.size:=k02 f h.size;have P:=vv (J.o.below h f);have R:=vn O h;clear h L M f hx l;go_wp2;go_roundw
   case rel =>
    refine⟨j,_,(r*4294967296+nth xs j)%d,V.set j ((r*4294967296+nth xs j)/d),rfl,by omega,by omega,rfl,k0j _ hd,D.o.2.1,by rw[k07];exact g.o,P.o.set (by rw[g.o];omega) D.o.2.2 rfl,fun p hp=>?_,R.o.setCell lr _⟩;by_cases hpj:p=j
    ·subst hpj;rw[q0D V p _ p (by rw[g.o];omega),k0n rfl];exact D.o.1
    ·rw[q0m _ _ hpj];exact s.o p (by omega)
   case measure=>simp [intOf]
def fg8(D:List Nat):List Value:=u8s (D.map (·+48))
theorem q8X(D:List Nat)(d:Nat):fg8 (D++[d])=fg8 D++[.int .u8 ((d+48:Nat):Int)]:=by unfold fg8;rw[List.map_append,q9H];rfl
theorem q4w(D:List Nat){i:Nat}(h:i<D.length):nth (D.map (·+48)) i=nth D i+48:=by unfold nth;rw[List.getD_eq_getElem?_getD,List.getD_eq_getElem?_getD,List.getElem?_map,List.getElem?_eq_getElem h];rfl
def q1o(R:Nat):Nat->List Nat
 | 0=>[]
 | q+1=>q1o R q++[R/10^q%10]
theorem q2a(R q:Nat):(q1o R q).length=q:=by
 induction q with
 | zero=>rfl
 | succ q ih=>show(q1o R q++[_]).length=q+1;rw[k1q,ih];rfl
theorem q6c(R q:Nat):leV (q1o R q)=R%10^q:=by
 induction q with
 | zero=>show 0=R%1;omega
 | succ q ih =>show leV (q1o R q++[_])=_;rw[q8N,ih,q2a,k0a,Nat.mod_mul]
theorem q7z(R q:Nat):∀d∈q1o R q,d<10:=by
 induction q with
 | zero=>intro d h;cases h
 | succ q ih =>
  intro d h;rcases k2D.1 h with h|h
  ·exact ih d h
  ·rw[k0i.1 h];exact k0j _ (by decide)
theorem qag(D E:List Nat):leV (D++E)=leV D+10^D.length*leV E:=by
 induction D with
 | nil=>simp [leV]
 | cons x D ih =>show x+10*leV (D++E)=x+10*leV D+10^(D.length+1)*leV E;rw[ih,k0a];grind
theorem qd9{D:List Nat}{M N:Nat}(h:leV D+10^D.length*M=N):leV (D++q1o (M%1000000000) 9)+10^(D++q1o (M%1000000000) 9).length*(M/1000000000)=N:=by rw[qag,q6c,k1q,q2a,k0h,<- h,k0f,k1F,<- k0k];congr 2;show M%1000000000%1000000000+1000000000*(M/1000000000)=M;omega
theorem qbC{D:List Nat}{M N:Nat}(h:leV D+10^D.length*M=N)(hM:0<M):D.length<=q0t N:=by
 have a:10^D.length*1<=10^D.length*M:=k0g _ hM;have b:=Lib.lt_pow_nDigits N;rcases k0y (Lib.nDigits N) D.length with k|k
 ·have:=k04 (n:=10) (by decide) (k16 k);omega
 ·exact k
theorem qbh{w w':World}{A:Option Addr}{n c:Nat}{xs:List Nat}{row:Option Nat}(h:Rd w A n c xs)(hg:w.grownBy w' row)(hne:∀a,A=some a->row≠some a.block):Rd w' A n c xs:=⟨h.len,h.le,h.sm,h.lim,fun hn=>by obtain⟨b,off,e,hlt,hc⟩:=h.cell hn;exact⟨b,off,e,k02 hlt hg.size,fun j hj=>(World.cell?_of_block (a:=⟨b,off+j,none⟩) (hg.block b hlt (fun k=>hne _ e k.symm))).trans (hc j hj)⟩⟩
theorem q8x{D V:List Nat}{k N:Nat}(hD:∀d∈D,d<10)(hk:k<=D.length)(h0:0<k)(hz:∀i,k<=i->i<D.length->nth D i=0)(hl:nth D (k-1)≠0)(hN:leV D=N)(hV:V.length=k)(h:∀i,i<k->nth V i=nth D (k-1-i)+48):txt V=q1g N:=by
 have e:=q4z D k hz;have b:(D.take k).length=k:=by rw[k0t];omega
 have c:nth (D.take k) ((D.take k).length-1)≠0:=by
  rw[b];have:nth (D.take k) (k-1)=nth D (k-1):=by unfold nth;rw[List.getD_eq_getElem?_getD,List.getD_eq_getElem?_getD,List.getElem?_take,k0n (by omega)]
  rw[this];exact hl
 have f:=q9o (D.take k) (fun d hd=>hD d (List.mem_of_mem_take hd)) (by omega) c;unfold txt q1g;rw[<- hN,e,<- f];congr 2;apply List.ext_getElem?;intro i;by_cases hi:i<k
 ·have a:=h i hi;unfold nth at a;rw[List.getD_eq_getElem?_getD,List.getD_eq_getElem?_getD,List.getElem?_eq_getElem (by omega),List.getElem?_eq_getElem (by omega)] at a;rw[List.getElem?_map,List.getElem?_eq_getElem (by omega),List.getElem?_reverse (by rw[k1T];omega),List.getElem?_map,k1T,b,List.getElem?_take,k0n (by omega),List.getElem?_eq_getElem (by omega)];have g:V[i]'(by omega)=D[k-1-i]'(by omega)+48:=a;show some (UInt8.ofNat V[i])=some (UInt8.ofNat (48+D[k-1-i]));rw[g,k11]
 ·rw[List.getElem?_eq_none (by rw[k1T];omega),List.getElem?_eq_none (by rw[List.length_reverse,k1T];omega)]
theorem q7b(A:Option Addr)(n c:Nat)(W:World):(Instr.field 37 (q0I A n c) 0).run Tryz.prog W=.ok (.slice A n c) W:=by kernel_rfl
theorem Text(A:Option Addr)(n c N:Nat)(w:World)(ha:Rd w A n c (toL N))(hn:n<=16384)(hN:q0t N<=200000):Calls Tryz.prog 226 #[q0I A n c] w fun e w'=>e=.returned (.tuple #[.string (q1g N),.int .i64 0])/\Below w.heap.size w w':=by
 obtain⟨i0,hi,f3,f4,f5⟩:=info_parts Go.Proofs.YtabcgemembkkcaaGreatDoor.inf8';obtain⟨w0,a7⟩:=yx (w.alloc (.cells #[.slice A n c] 37));have O:Ctx w [(w.heap.size,37,[.slice A n c])] w0:=by rw[a7];exact(Ctx.nil w).new _ [_] rfl
 have f6:=vv (Check_ok (O.rd ha) hn);have HW:=vv a7;have HC:=vv O;have HA:=vv fun w' (h:Below w.heap.size w w')=>ha.below h rfl
 have f7:=vv fun(M m d:Nat) (u:Option Addr) W (h:Rd W u m d (toL M)) (hm:m<=16384)=>small u m d 1000000000 (toL M) W h hm (by decide) (by decide)
 have f8:=vv fun u m d xs W (h:Rd W u m d xs)=>Nat_.trimmed u m d xs W h
 have HN:=vv hN;have f9:=vv hn;have c0:=O.get 0 rfl |>.cell 0;have cl:=O.get 0 rfl |>.lt;simp only[List.getElem?_cons_zero] at c0;clear a7 O ha hN hn;go_enter func226,ntmps226;go_wp2_with fail;rw[<- HW.o];go_wp2_with fail;refine f6.o.mono ?_;rintro e w1 ⟨rfl,s⟩;have E:=vv (HC.o.step s);have a8:Hid (w.heap.size+1<=w1.heap.size):=vv (E.o.get 0 rfl).lt;clear s c0 cl;have c0:=E.o.get 0 rfl |>.cell 0;have cl:=E.o.get 0 rfl |>.lt;simp only[List.getElem?_cons_zero] at c0;go_wp2_with fail;go_loopw [5,6] (fun b l wr=>∃(M m d:Nat) (u:Option Addr) (D:List Nat),l=.slice u m d/\m<=16384/\Rd wr u m d (toL M)/\wr.ownsRow (w.heap.size+1) 5 1 b D.length (fg8 D)/\(∀d∈D,d<10)/\leV D+10^D.length*M=N/\D.length<=200010/\Below (w.heap.size+1) w1 wr) (fun b _ _=>300000-Go.Proofs.YtabcgemembkkcaaGreatDoor.B.vlen b)
 case atStart =>exact⟨N,n,c,A,[],rfl,f9.o,HA.o _ E.o.low,World.ownsRow_nil _ _ _ _,(fun d h=>by cases h),by show 0+1*N=N;omega,by show 0<=_;omega,Below.refl _ _⟩
 case round =>
  obtain⟨M,m,d,u,D,rfl,hm,hR,f,hD,hv,b4,z⟩:=hrel;have HR:=vv hR;have K:=vv f;have HD:=vv hD;have HV:=vv hv;have I:=vv z;have T:=hR.words;have b5:=vv b4;have j5:(m:Int)<=16384:=by omega
  clear hR f hD hv z b4;rcases k01 m with b6|b6
  ·subst b6;have U:M=0:=q06.1 T;have b7:Hid (leV D=N):=vv (by have:=HV.o;rw[U,k1n] at this;exact this);have j6:=Go.Proofs.YtabcgemembkkcaaGreatDoor.B.len_row K.o;have j7:(D.length:Int)<=200010:=by have:=b5.o;omega
   clear U T;go_wp2_with fail;go_loop [9] (fun t=>∃k:Nat,k<=D.length/\t=.int .i64 (k:Int)/\∀i,k<=i->i<D.length->nth D i=0) (fun t=>(intOf t).toNat)
   case atStart=>exact⟨D.length,lr,rfl,fun i h1 P=>absurd h1 (by omega)⟩
   case round =>
    obtain⟨k,F,rfl,hz⟩:=hrel;have a9:=vv hz;clear hz;rcases k01 k with rfl|j8
    ·have hN:N=0:=by rw[<- b7.o,q4z D 0 a9.o,k2I];rfl
     have HE:Hid (q1g N=⟨#[48]⟩):=vv (by rw[hN];unfold q1g;rw[q1R (by decide)];rfl);clear hN;go_wp2;go_ret2;exact⟨by rw[HE.o];rfl,E.o.low.trans (I.o.mono (k1B _))⟩
    ·obtain⟨j,rfl⟩:∃j,k=j+1:=⟨k-1,by omega⟩;have f:=K.o;unfold fg8 at f;obtain⟨g,cap,hu,j9⟩:=q62 f (by omega);subst hu;obtain⟨J,c4,c5,c6⟩:=q4t f (i:=j) (by omega);rw[q4w D (by omega)] at J;have j1:nth D j<10:=HD.o _ (by unfold nth;rw[List.getD_eq_getElem?_getD,List.getElem?_eq_getElem (by omega)];exact k2s _);have k0:(j:Int)<(D.length:Int):=by omega
     have k1:(j:Int)+1<=(D.length:Int):=by omega
     by_cases h0:nth D j=0
     ·have c7:wr.cell? ⟨g,j,none⟩=some (.int .u8 48):=by rw[h0] at J;exact J
      have H0:=vv h0;clear J h0 f c4;go_wp2;go_round
      case rel=>exact⟨j,by omega,by go_num,fun i h1 P=>by
       rcases k1I h1 with e|e
       ·rw[<- e];exact H0.o
       ·exact a9.o i e P⟩
      case measure=>simp [intOf]
     ·obtain⟨x,hx⟩:=yx (nth D j+48);rw[<- hx] at J;have k2:((x:Int)==48)=false:=by rw[k09];omega
      have k3:(((j:Int)+1)==0)=false:=by rw[k09];omega
      have g0:=Go.Proofs.YtabcgemembkkcaaGreatDoor.B.mk8' (j+1) (by omega);rw[show((j+1:Nat):Int)=(j:Int)+1 by omega] at g0;have H0:=vv h0;have g1:=vv f;have k4:(j:Int)<=200010:=by omega
      clear h0 hx f c4;go_wp2_with fail;obtain⟨H,hH⟩:=yx (wr.heap.size);have HH:=vv hH;have b8:g<H:=by rw[hH];exact c6
      have g2:=vv b8;rw[<- hH];clear hH b8 J;go_loopw [62] (fun i wx=>∃(p:Nat) (V:List Nat),i=.int .i64 (p:Int)/\p<=j+1/\V.length=j+1/\q2f wx H 5 V/\(∀q,q<p->nth V q=nth D (j-q)+48)/\wx.ownsRow (w.heap.size+1) 5 1 (.slice (some ⟨g,0,none⟩) D.length cap) D.length (u8s (D.map (·+48)))/\Below w.heap.size w wx) (fun i _=>j+1-(intOf i).toNat)
      case atStart =>exact⟨0,List.replicate (j+1) 0,rfl,k0x _,k0I,by rw[HH.o];exact q2f.made _ _ _,fun q hq=>absurd hq (by omega),g1.o.alloc _,(E.o.low.trans (I.o.mono (k1B _))).alloc (k06 E.o.low.size I.o.size) _⟩
      case round =>
       obtain⟨p,V,rfl,hp,hV,v,Q,f,z⟩:=hrel;have L:=vv hV;have b9:=vv v;have b0:=vv Q;have g3:=vv f;have c1:=vv z;rcases k0y p (j+1) with g4|g4
       ·obtain⟨r,hr⟩:=yx (j-p);obtain⟨e3,e4,e5,e6⟩:=q4t f (i:=r) (by omega);rw[q4w D (by omega)] at e3;have x0:=v.cell (i:=p) (by omega);have xf:=v.frozen p;have xl:=v.lt;have k5:(p:Int)<(j:Int)+1:=by omega
        have j2:(p:Int)<=(j:Int):=by omega
        have k6:(0:Int)<=(p:Int):=by omega
        have k7:(j:Int)-(p:Int)=(r:Int):=by omega
        have k8:(r:Int)<(D.length:Int):=by omega
        have g5:=vv hr;clear hr v Q f z e4 hV;go_wp2;go_roundw
        case measure=>simp [intOf];omega
        case rel =>
         refine⟨p+1,V.set p (nth D r+48),by go_num,by omega,by rw[k07];exact L.o,b9.o.set (by rw[L.o];omega) (by omega),fun q hq=>?_,g3.o.kept (Go.Proofs.YtabcgemembkkcaaGreatDoor.only_setCell (World.grownBy.refl _ _) (.inl rfl) _) (.inr fun e=>?_),c1.o.setCell (p:=⟨H,p,none⟩) (by show _<=H;rw[HH.o];exact k06 E.o.low.size I.o.size) _⟩
         ·by_cases hpq:q=p
          ·subst hpq;rw[q0D _ q _ q (by rw[L.o];omega),k0n rfl,g5.o]
          ·rw[q0m _ _ hpq];exact b0.o q (by omega)
         ·have P:some g=some H:=e;injection P with P;have:=g2.o;omega
       ·obtain rfl:p=j+1:=by omega
        have c2:txt V=q1g N:=q8x HD.o (k:=j+1) F (by omega) a9.o (by rw[k1d];exact H0.o) b7.o L.o (fun i hi=>by rw[b0.o i hi,k1d]);have c8:∀x∈V,x<256:=by intro y hy;obtain⟨i,hi,rfl⟩:=List.getElem_of_mem hy;have e:=b0.o i (by omega);unfold nth at e;rw[List.getD_eq_getElem?_getD,List.getD_eq_getElem?_getD,List.getElem?_eq_getElem hi,List.getElem?_eq_getElem (by omega)] at e;have e9:V[i]=D[j-i]'(by omega)+48:=e;have:=HD.o (D[j-i]'(by omega)) (k2s _);omega
        have b1:=q61 (Go.Proofs.YtabcgemembkkcaaGreatDoor.B.own8_row (base:=0) b9.o L.o (k0x _) (by unfold maxLen;omega)) c8;rw[c2] at b1;have g6:=vv b1;have j3:=g6.o;have k9:¬((j:Int)+1<(j:Int)+1):=by omega
        clear c2 c8 v Q f z b1;go_wp2;go_ret2;exact⟨rfl,c1.o⟩
  ·have U:0<M:=by
    rcases k01 M with h|h
    ·rw[h,q0s] at T;omega
    ·exact h
   have c9:=vv (k06 (qbC HV.o U) HN.o);have t1:qa ((0:Int)<(m:Int))=true:=k03 (by omega);obtain⟨R,b2⟩:=yx (M%1000000000);have g7:R<=999999999:=by omega
   have hs:=f7.o M m d u _ HR.o hm;rw[q04,<- b2] at hs;have g8:=vv b2;clear b2;go_wp2_with fail;refine hs.mono ?_;rintro e w2 ⟨rfl,⟨V,v,d0,d1⟩,s⟩;have d2:Hid (∀k,u5.ownBlock=some k->k≠wr.heap.size):=vv fun k F=>by have:=(Go.Proofs.YtabcgemembkkcaaGreatDoor.B.row8_lt K.o k F).2;omega
   have g9:Hid (wr.heap.size<w2.heap.size):=vv v.lt;have d3:=v.rd (n:=m) (c:=m) d0.symm lr (by omega);have a4:=vv (q5p K.o fun g _ hg=>s.block g hg);have d4:Hid (w.heap.size+1<=w2.heap.size):=vv (by have:=a8.o;have:=I.o.size;have:=s.size;omega);have i1:=vv (I.o.trans (s.mono (by have:=a8.o;have:=I.o.size;omega)));clear s v;go_wp2_with fail;refine(f8.o _ _ _ _ _ d3).mono ?_;rintro e w3 ⟨S,C,rfl,X,d5,s⟩;have d6:Hid (∀a,S=some a->a.block=wr.heap.size):=vv fun a e=>by have:=d5 a e;cases this;rfl
   have d7:Hid (wr.heap.size<w3.heap.size):=vv (k02 g9.o s.size);rw[d1] at X;have i2:C<=m:=by rw[<- X.words,<- T];exact q27 (k0e _ _)
   have i3:=vv X;have a5:=vv (q5p a4.o fun g _ hg=>s.block g hg);have i4:=vv (i1.o.trans (s.mono d4.o));have l0:Hid (w.heap.size+1<=w3.heap.size):=vv (by have:=d4.o;have:=s.size;omega);clear s d3 d0 d1 X d5;obtain⟨G,hG⟩:=yx (wr.heap.size);rw[<- hG] at d2 d6 d7;have l1:=vv hG;clear hG;have l2:=q7b S C C;clear hs;go_wp2_with fail;go_loopw [5,8,30] (fun b r i wx=>∃(q:Nat),q<=9/\i=.int .i64 (q:Int)/\r=.int .u32 ((R/10^q:Nat):Int)/\wx.ownsRow (w.heap.size+1) 5 1 b (D.length+q) (fg8 (D++q1o R q))/\Below (w.heap.size+1) w1 wx/\Rd wx S C C (toL (M/1000000000))/\(∀k,b.ownBlock=some k->k≠G)/\G<wx.heap.size) (fun _ _ i _=>(9-intOf i).toNat)
   case atStart=>exact⟨0,by decide,rfl,by rw[k0J,k1m],by rw[show q1o R 0=[] from rfl,List.append_nil];exact a5.o,i4.o,i3.o,d2.o,d7.o⟩
   case round =>
    obtain⟨q,hq,rfl,rfl,f,z,d8,d9,e0⟩:=hrel;obtain⟨Z,hZ⟩:=yx (R/10^q);have l3:Z<=999999999:=by rw[hZ];exact k06 (k0e _ _) g7
    rw[<- hZ];have HZ:=vv hZ;have a2:=vv f;have b3:=vv z;have e7:=vv d8;have e8:=vv d9;have f0:=vv e0;have a3:=Go.Proofs.YtabcgemembkkcaaGreatDoor.B.row8_lt f;have i5:=vv (Go.Proofs.YtabcgemembkkcaaGreatDoor.B.vlen_row f);have HQ:=vv hq;clear hZ f z d8 d9 e0;by_cases hq9:q<9
    ·have f1:w.heap.size+1<=wr.heap.size:=k06 a8.o b3.o.size;have i6:=b5.o;go_wp2_with (at_builtin;refine wpList_append_own_at _ rfl _ _ 229 rfl (w.heap.size+1) 5 i0 (.int .u8 0) 1 1 underlying229 hi f3 f4 f5 rfl (by decide) _ (D.length+q) (fg8 (D++q1o R q)) rfl (a2.o.alloc _) ⟨wr.heap.size,0,none⟩ 1 1 [.int .u8 (48+(Z:Int)%10)] rfl rfl (cell_one_new _ _ _) (by simp [Value.oneCell']) (by unfold maxLen;omega) (by omega) (by simp;omega) ?_);intro v' w5 a1 a0 _ f2;replace a1:w5.ownsRow (w.heap.size+1) 5 1 v' (D.length+(q+1)) (fg8 (D++q1o R (q+1))):=by rw[show q1o R (q+1)=q1o R q++[R/10^q%10] from rfl,<- List.append_assoc,q8X,<- HZ.o];rw[show(((Z%10+48:Nat):Int))=48+(Z:Int)%10 by omega];exact a1
     have a6:=vv a1;have i7:=vv ((b3.o.alloc f1 (.cells #[.int .u8 (48+(Z:Int)%10)] 5)).grown a0 (by simp;omega) (fun e he=>(a3 e he).1));have i8:Hid (Rd w5 S C C (toL (M/1000000000))):=vv (qbh (e7.o.below ((Below.refl _ _).alloc lr _) rfl) a0 (fun a e he=>e8.o _ he (d6.o a e)));have i9:Hid (∀k,v'.ownBlock=some k->k≠G):=vv (fun k F=>by
      rcases f2 with h|h
      ·rw[h] at F;exact e8.o k F
      ·rw[h] at F;have:=f0.o;simp at F;omega)
     have j0:Hid (G<w5.heap.size):=vv (k02 (by have:=f0.o;simp;omega) a0.size);obtain⟨Y,hY⟩:=yx (Z/10);have l4:(Z:Int)/10=(Y:Int):=by omega
     have HY:=vv hY;clear hY;clear a1 a0 f2 a3 f1 i6;go_wp2;go_roundw
     case measure=>simp [intOf];omega
     case rel=>exact⟨q+1,hq9,by go_num,by rw[k0a,<- k0p,<- HZ.o,<- HY.o],a6.o,i7.o,i8.o,i9.o,j0.o⟩
    ·obtain rfl:q=9:=by omega
     have l5:=Go.Proofs.YtabcgemembkkcaaGreatDoor.B.vlen_row K.o;have j4:=i2;go_wp2;go_roundw
     case measure =>have e1:=i5.o;have e2:=c9.o;omega
     case rel =>
      refine⟨M/1000000000,C,C,S,D++q1o R 9,rfl,by omega,e7.o,by rw[k1q,q2a];exact a2.o,fun d Q=>?_,by rw[g8.o];exact qd9 HV.o,by rw[k1q,q2a];have:=c9.o;omega,b3.o⟩;rcases k2D.1 Q with h|h
      ·exact HD.o d h
      ·exact q7z _ _ d h
end Pnt
end Go.Proofs.YtabcgemembkkcaaGreatDoor
