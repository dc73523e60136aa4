/- Lemmas. -/
import Derived.Test.YtabcgemembkkcaaGreatDoorDigsBM
import Derived.Test.YtabcgemembkkcaaGreatDoorDigsBB
set_option linter.all false
set_option maxHeartbeats 8000000
set_option maxRecDepth 100000
open Go.Proofs.Tryz
open Decidable renaming decide->qa
open Option renaming some->qb,none->qc
open Go renaming World->qd,Calls->qg
open Go.Proofs.Tryz renaming prog->qe
open Go.RowKit renaming Below->qf
namespace Go.Proofs.YtabcgemembkkcaaGreatDoor
variable{D:List Nat}{M N g:Nat}{w w' a:qd}
namespace Sh
open Go
def leV:List Nat->Nat
 | []=>0
 | d::D=>d+10*leV D
theorem q9o(D:List Nat)(d:Nat):leV (D++[d])=leV D+10^D.length*d:=by
 induction D with
 | nil=>simp [leV]
 | cons x D ih =>show x+10*leV (D++[d])=x+10*leV D+10^(D.length+1)*d;rw[ih,k0d];grind
theorem q4P(D:List Nat)(n:Nat)(h:∀i,n<=i->i<D.length->nth D i=0):leV D=leV (D.take n):=by
 induction D generalizing n with
 | nil=>simp
 | cons x D ih =>
  cases n with
  | zero =>have a:x=0:=h 0 (k0x _) (by simp);have:=ih 0 (fun i hi hl=>h (i+1) (by omega) (by simpa using hl));rw[k2Z] at this ⊢;show x+10*leV D=0;rw[a,this];rfl
  | succ n =>have:=ih n (fun i hi hl=>h (i+1) (by omega) (by simpa using hl));show x+10*leV D=x+10*leV (D.take n);rw[this]
theorem q7Z:∀(D:List Nat),0<D.length->nth D (D.length-1)≠0->0<leV D
 | [],h,_=>absurd h (by decide)
 | [d],_,h=>by have:d≠0:=h;show 0<d+10*0;omega
 | d::x::D,_,h=>by have:=q7Z (x::D) (by simp) h;show 0<d+10*leV (x::D);omega
theorem qa6:∀(D:List Nat),(∀d∈D,d<10)->0<D.length->nth D (D.length-1)≠0->(D.map fun d=>UInt8.ofNat (48+d)).reverse=Lib.decDigits (leV D)
 | [],_,h,_=>absurd h (by decide)
 | [d],hd,_,h=>by have h1:d<10:=hd d (by simp);show[UInt8.ofNat (48+d)]=Lib.decDigits (d+10*0);rw[k1m,k1u,q1X h1]
 | d::x::D,hd,_,h=>by have h1:d<10:=hd d (by simp);have hp:=q7Z (x::D) (by simp) h;have ih:=qa6 (x::D) (fun y hy=>hd y (List.mem_cons_of_mem _ hy)) (by simp) h;rw[List.map_cons,List.reverse_cons,ih];show _=Lib.decDigits (d+10*leV (x::D));rw[q2Z (N:=d+10*leV (x::D)) (by omega),show(d+10*leV (x::D))/10=leV (x::D) by omega,show(d+10*leV (x::D))%10=d by omega]
end Sh
namespace Pnt
open Go Go.RowKit R5 Scn Sh
theorem small(A:Option Addr)(n c d:Nat)(xs:List Nat)(w:qd)(ha:Rd w A n c xs)(hn:n<=16384)(hd:0<d)(hd':d<4294967296):qg qe 297 #[.slice A n c,.int .u32 (d:Int)] w fun e w'=>e=.returned (.tuple #[.slice (qb ⟨w.heap.size,0,qc⟩) n n,.int .u32 ((val xs%d:Nat):Int)])/\(∃V,Own w' w.heap.size 54 V/\V.length=n/\val V=val xs/d)/\qf w.heap.size w w':=by
 have Z:=Go.Proofs.YtabcgemembkkcaaGreatDoor.AB.mk n (by omega);have a2:(n:Int)<=16384:=by omega
 have S:=vv fun r x W (m:r<d) (h2:x<4294967296)=>qdF r x d W m h2 hd'
 go_enter func297,ntmps297;go_wp2;go_loopw [7,8] (fun q i wr=>∃(k:Nat) (z:Int) (r:Nat) (V:List Nat),i=.int .i64 z/\z+1=k/\k<=n/\q=.int .u32 r/\r<d/\r=(val xs/4294967296^k)%d/\V.length=n/\Own wr w.heap.size 54 V /\(∀j,k<=j->nth V j=(val xs/d)/4294967296^j%4294967296)/\qf w.heap.size w wr) (fun _ i _=>(intOf i+1).toNat)
 case atStart =>
  have T:val xs/4294967296^n=0:=k0K ha.lt;refine⟨n,_,0,List.replicate n 0,rfl,by omega,lr,rfl,hd,by rw[T];simp,by simp,Own.made _ _ _,fun j hj=>?_,(Below.refl _ _).alloc lr _⟩;have m:val xs/d/4294967296^j=0:=by rw[k0h,k0g,<- k0h,k0K (q1N ha.lt hj)];simp
  rw[m,q10]
 case round =>
  obtain⟨k,z,r,V,rfl,G,hk,rfl,H,t,u,a,v,h⟩:=hrel;have I:=vv t;have f:=vv u;have s:=vv v;have J:=vv a;clear t u v;rcases k01 k with rfl|a0
  ·obtain rfl:z = -1:=by omega
   clear G;have K:val V=val xs/d:=by
    have:=q1g (U:=V) (Q:=val xs/d) fun i _=>s.o i (k0x _)
    rw[this,f.o];exact k0E (k0I (k0q _ _) ha.lt)
   have X:=vv K;clear K;have y:val xs%d=r:=by have:=I.o;rw[k0B,k1b] at this;exact this.symm
   have N:=vv y;clear y a;go_wp2;go_ret2;refine⟨?_,⟨V,J.o,f.o,X.o⟩,h⟩;rw[N.o];first|rfl|simp
  ·obtain⟨j,rfl⟩:∃j,k=j+1:=⟨k-1,by omega⟩;obtain rfl:z=(j:Int):=by omega
   clear G;obtain⟨b,off,rfl,C,E⟩:=ha.cell (by omega);have hx:wr.cell? ⟨b,off+j,qc⟩=qb (.int .u32 ((nth xs j:Nat):Int)):=(h.cell (p:=⟨b,off+j,qc⟩) C).trans (E j (by omega));clear E;have F:=ha.nth_lt j;have L:=a.cell (i:=j) (by rw[f.o];omega);have M:=a.frozen j;have l:=a.lt;have D:=vv (Go.Proofs.YtabcgemembkkcaaGreatDoor.divs_step (V:=V) hd H F (fun q hq=>s.o q hq) I.o ha.lim);have a1:b<wr.heap.size:=k03 C h.size;have O:=vv h;clear a;go_wp2_with fail;refine(S.o r (nth xs j) _ H F).mono ?_;rintro e Y ⟨rfl,g⟩;have a3:=(g.cell (p:=⟨w.heap.size,j,qc⟩) l).trans L;have a4:=(g.frozen (p:=⟨w.heap.size,j,qc⟩) l).trans M;have a5:w.heap.size<Y.heap.size:=k03 l g.size;have P:=vv (J.o.below g l);have R:=vn O g;clear g L M l hx h;go_wp2;go_roundw
   case rel =>
    refine⟨j,_,(r*4294967296+nth xs j)%d,V.set j ((r*4294967296+nth xs j)/d),rfl,by omega,by omega,rfl,k0i _ hd,D.o.2.1,by rw[k0c];exact f.o,P.o.set (by rw[f.o];omega) D.o.2.2 rfl,fun p hp=>?_,R.o.setCell lr _⟩;by_cases hpj:p=j
    ·subst hpj;rw[q0H V p _ p (by rw[f.o];omega),k0p rfl];exact D.o.1
    ·rw[q0i _ _ hpj];exact s.o p (by omega)
   case measure=>simp [intOf]
def fg8(D:List Nat):List Value:=u8s (D.map (·+48))
theorem q9z(D:List Nat)(d:Nat):fg8 (D++[d])=fg8 D++[.int .u8 ((d+48:Nat):Int)]:=by unfold fg8;rw[k2O,q4a];rfl
theorem q4O(D:List Nat){i:Nat}(h:i<D.length):nth (D.map (·+48)) i=nth D i+48:=by unfold nth;rw[k0b,k0b,k1S,k0n h];rfl
def q1z(R:Nat):Nat->List Nat
 | 0=>[]
 | q+1=>q1z R q++[R/10^q%10]
theorem q2e(R q:Nat):(q1z R q).length=q:=by
 induction q with
 | zero=>rfl
 | succ q ih=>show(q1z R q++[_]).length=q+1;rw[k16,ih];rfl
theorem q6P(R q:Nat):leV (q1z R q)=R%10^q:=by
 induction q with
 | zero=>show 0=R%1;omega
 | succ q ih =>show leV (q1z R q++[_])=_;rw[q9o,ih,q2e,k0d,k3d]
theorem q88(R q:Nat):∀d∈q1z R q,d<10:=by
 induction q with
 | zero=>intro d h;cases h
 | succ q ih =>
  intro d h;rcases k2P.1 h with h|h
  ·exact ih d h
  ·rw[k09.1 h];exact k0i _ (by decide)
theorem qb1(D E:List Nat):leV (D++E)=leV D+10^D.length*leV E:=by
 induction D with
 | nil=>simp [leV]
 | cons x D ih =>show x+10*leV (D++E)=x+10*leV D+10^(D.length+1)*leV E;rw[ih,k0d];grind
theorem qes(h:leV D+10^D.length*M=N):leV (D++q1z (M%1000000000) 9)+10^(D++q1z (M%1000000000) 9).length*(M/1000000000)=N:=by rw[qb1,q6P,k16,q2e,k0e,<- h,k0j,k1M,<- k0u];congr 2;show M%1000000000%1000000000+1000000000*(M/1000000000)=M;omega
theorem q3W(h:leV D+10^D.length*M=N)(hM:0<M):D.length<=q0K N:=by
 have a:10^D.length*1<=10^D.length*M:=k0m _ hM;have b:=Lib.lt_pow_nDigits N;rcases k0A (Lib.nDigits N) D.length with k|k
 ·have:=k00 (n:=10) (by decide) (k1l k);omega
 ·exact k
theorem qca{A:Option Addr}{n c:Nat}{xs:List Nat}{row:Option Nat}(h:Rd w A n c xs)(hg:w.grownBy w' row)(hne:∀a,A=qb a->row≠qb a.block):Rd w' A n c xs:=⟨h.len,h.le,h.sm,h.lim,fun hn=>by obtain⟨b,off,e,hlt,hc⟩:=h.cell hn;exact⟨b,off,e,k03 hlt hg.size,fun j hj=>(World.cell?_of_block (a:=⟨b,off+j,qc⟩) (hg.block b hlt (fun k=>hne _ e k.symm))).trans (hc j hj)⟩⟩
theorem q97{V:List Nat}{k:Nat}(hD:∀d∈D,d<10)(hk:k<=D.length)(h0:0<k)(hz:∀i,k<=i->i<D.length->nth D i=0)(hl:nth D (k-1)≠0)(hN:leV D=N)(hV:V.length=k)(h:∀i,i<k->nth V i=nth D (k-1-i)+48):txt V=q0J N:=by
 have e:=q4P D k hz;have b:(D.take k).length=k:=by rw[k0v];omega
 have c:nth (D.take k) ((D.take k).length-1)≠0:=by
  rw[b];have:nth (D.take k) (k-1)=nth D (k-1):=by unfold nth;rw[k0b,k0b,k1d,k0p (by omega)]
  rw[this];exact hl
 have f:=qa6 (D.take k) (fun d hd=>hD d (List.mem_of_mem_take hd)) (by omega) c;unfold txt q0J;rw[<- hN,e,<- f];congr 2;apply List.ext_getElem?;intro i;by_cases hi:i<k
 ·have a:=h i hi;unfold nth at a;rw[k0b,k0b,k0n (by omega),k0n (by omega)] at a;rw[k1S,k0n (by omega),List.getElem?_reverse (by rw[k1U];omega),k1S,k1U,b,k1d,k0p (by omega),k0n (by omega)];have g:V[i]'(by omega)=D[k-1-i]'(by omega)+48:=a;show qb (UInt8.ofNat V[i])=qb (UInt8.ofNat (48+D[k-1-i]));rw[g,k0Z]
 ·rw[k15 (by rw[k1U];omega),k15 (by rw[List.length_reverse,k1U];omega)]
theorem q7M(A:Option Addr)(n c:Nat)(W:qd):(Instr.field 37 (q0x A n c) 0).run qe W=.ok (.slice A n c) W:=by kernel_rfl
theorem Text(A:Option Addr)(n c N:Nat)(w:qd)(ha:Rd w A n c (toL N))(hn:n<=16384)(hN:q0K N<=200000):qg qe 226 #[q0x A n c] w fun e w'=>e=.returned (.tuple #[.string (q0J N),.int .i64 0])/\qf w.heap.size w w':=by
 obtain⟨i0,hi,f1,f2,f3⟩:=info_parts Go.Proofs.YtabcgemembkkcaaGreatDoor.inf8';obtain⟨w0,a6⟩:=yx (w.alloc (.cells #[.slice A n c] 37));have L:Ctx w [(w.heap.size,37,[.slice A n c])] w0:=by rw[a6];exact(Ctx.nil w).new _ [_] rfl
 have f4:=vv (Check_ok (L.rd ha) hn);have HW:=vv a6;have HC:=vv L;have HA:=vv fun w' (h:qf w.heap.size w w')=>ha.below h rfl
 have f5:=vv fun(M m d:Nat) (u:Option Addr) W (h:Rd W u m d (toL M)) (hm:m<=16384)=>small u m d 1000000000 (toL M) W h hm (by decide) (by decide)
 have f6:=vv fun u m d xs W (h:Rd W u m d xs)=>Nat_.trimmed u m d xs W h
 have HN:=vv hN;have f7:=vv hn;have c0:=L.get 0 rfl |>.cell 0;have cl:=L.get 0 rfl |>.lt;simp only[k06] at c0;clear a6 L ha hN hn;go_enter func226,ntmps226;go_wp2_with fail;rw[<- HW.o];go_wp2_with fail;refine f4.o.mono ?_;rintro e w1 ⟨rfl,s⟩;have E:=vv (HC.o.step s);have a7:Hid (w.heap.size+1<=w1.heap.size):=vv (E.o.get 0 rfl).lt;clear s c0 cl;have c0:=E.o.get 0 rfl |>.cell 0;have cl:=E.o.get 0 rfl |>.lt;simp only[k06] at c0;go_wp2_with fail;go_loopw [5,6] (fun b l wr=>∃(M m d:Nat) (u:Option Addr) (D:List Nat),l=.slice u m d/\m<=16384/\Rd wr u m d (toL M)/\wr.ownsRow (w.heap.size+1) 5 1 b D.length (fg8 D)/\(∀d∈D,d<10)/\leV D+10^D.length*M=N/\D.length<=200010/\qf (w.heap.size+1) w1 wr) (fun b _ _=>300000-Go.Proofs.YtabcgemembkkcaaGreatDoor.B.vlen b)
 case atStart =>exact⟨N,n,c,A,[],rfl,f7.o,HA.o _ E.o.low,World.ownsRow_nil _ _ _ _,(fun d h=>by cases h),by show 0+1*N=N;omega,by show 0<=_;omega,Below.refl _ _⟩
 case round =>
  obtain⟨M,m,d,u,D,rfl,hm,hR,f,hD,hv,b3,z⟩:=hrel;have HR:=vv hR;have J:=vv f;have HD:=vv hD;have HV:=vv hv;have I:=vv z;have S:=hR.words;have b4:=vv b3;have j4:(m:Int)<=16384:=by omega
  clear hR f hD hv z b3;rcases k01 m with b5|b5
  ·subst b5;have T:M=0:=q06.1 S;have b6:Hid (leV D=N):=vv (by have:=HV.o;rw[T,k1m] at this;exact this);have j5:=Go.Proofs.YtabcgemembkkcaaGreatDoor.B.len_row J.o;have j6:(D.length:Int)<=200010:=by have:=b4.o;omega
   clear T S;go_wp2_with fail;go_loop [9] (fun t=>∃k:Nat,k<=D.length/\t=.int .i64 (k:Int)/\∀i,k<=i->i<D.length->nth D i=0) (fun t=>(intOf t).toNat)
   case atStart=>exact⟨D.length,lr,rfl,fun i h1 O=>absurd h1 (by omega)⟩
   case round =>
    obtain⟨k,F,rfl,hz⟩:=hrel;have a8:=vv hz;clear hz;rcases k01 k with rfl|j7
    ·have hN:N=0:=by rw[<- b6.o,q4P D 0 a8.o,k2Z];rfl
     have HE:Hid (q0J N=⟨#[48]⟩):=vv (by rw[hN];unfold q0J;rw[q1X (by decide)];rfl);clear hN;go_wp2;go_ret2;exact⟨by rw[HE.o];rfl,E.o.low.trans (I.o.mono (k1z _))⟩
    ·obtain⟨j,rfl⟩:∃j,k=j+1:=⟨k-1,by omega⟩;have f:=J.o;unfold fg8 at f;obtain⟨g,cap,hu,j8⟩:=q2K f (by omega);subst hu;obtain⟨c3,c4,c5,c6⟩:=q2w f (i:=j) (by omega);rw[q4O D (by omega)] at c3;have j0:nth D j<10:=HD.o _ (by unfold nth;rw[k0b,k0n (by omega)];exact k2F _);have j9:(j:Int)<(D.length:Int):=by omega
     have k0:(j:Int)+1<=(D.length:Int):=by omega
     by_cases h0:nth D j=0
     ·have c7:wr.cell? ⟨g,j,qc⟩=qb (.int .u8 48):=by rw[h0] at c3;exact c3
      have H0:=vv h0;clear c3 h0 f c4;go_wp2;go_round
      case rel=>exact⟨j,by omega,by go_num,fun i h1 O=>by
       rcases k1W h1 with e|e
       ·rw[<- e];exact H0.o
       ·exact a8.o i e O⟩
      case measure=>simp [intOf]
     ·obtain⟨x,hx⟩:=yx (nth D j+48);rw[<- hx] at c3;have k1:((x:Int)==48)=false:=by rw[k05];omega
      have k2:(((j:Int)+1)==0)=false:=by rw[k05];omega
      have f8:=Go.Proofs.YtabcgemembkkcaaGreatDoor.B.mk8' (j+1) (by omega);rw[show((j+1:Nat):Int)=(j:Int)+1 by omega] at f8;have H0:=vv h0;have f9:=vv f;have k3:(j:Int)<=200010:=by omega
      clear h0 hx f c4;go_wp2_with fail;obtain⟨H,hH⟩:=yx (wr.heap.size);have HH:=vv hH;have b7:g<H:=by rw[hH];exact c6
      have g0:=vv b7;rw[<- hH];clear hH b7 c3;go_loopw [62] (fun i wx=>∃(p:Nat) (V:List Nat),i=.int .i64 (p:Int)/\p<=j+1/\V.length=j+1/\q28 wx H 5 V/\(∀q,q<p->nth V q=nth D (j-q)+48)/\wx.ownsRow (w.heap.size+1) 5 1 (.slice (qb ⟨g,0,qc⟩) D.length cap) D.length (u8s (D.map (·+48)))/\qf w.heap.size w wx) (fun i _=>j+1-(intOf i).toNat)
      case atStart =>exact⟨0,List.replicate (j+1) 0,rfl,k0x _,k0H,by rw[HH.o];exact q28.made _ _ _,fun q hq=>absurd hq (by omega),f9.o.alloc _,(E.o.low.trans (I.o.mono (k1z _))).alloc (k07 E.o.low.size I.o.size) _⟩
      case round =>
       obtain⟨p,V,rfl,hp,hV,v,P,f,z⟩:=hrel;have K:=vv hV;have b8:=vv v;have a9:=vv P;have g1:=vv f;have b9:=vv z;rcases k0A p (j+1) with g2|g2
       ·obtain⟨r,hr⟩:=yx (j-p);obtain⟨e3,e4,e5,e6⟩:=q2w f (i:=r) (by omega);rw[q4O D (by omega)] at e3;have x0:=v.cell (i:=p) (by omega);have xf:=v.frozen p;have xl:=v.lt;have k4:(p:Int)<(j:Int)+1:=by omega
        have j1:(p:Int)<=(j:Int):=by omega
        have k5:(0:Int)<=(p:Int):=by omega
        have k6:(j:Int)-(p:Int)=(r:Int):=by omega
        have k7:(r:Int)<(D.length:Int):=by omega
        have g3:=vv hr;clear hr v P f z e4 hV;go_wp2;go_roundw
        case measure=>simp [intOf];omega
        case rel =>
         refine⟨p+1,V.set p (nth D r+48),by go_num,by omega,by rw[k0c];exact K.o,b8.o.set (by rw[K.o];omega) (by omega),fun q hq=>?_,g1.o.kept (Go.Proofs.YtabcgemembkkcaaGreatDoor.only_setCell (World.grownBy.refl _ _) (.inl rfl) _) (.inr fun e=>?_),b9.o.setCell (p:=⟨H,p,qc⟩) (by show _<=H;rw[HH.o];exact k07 E.o.low.size I.o.size) _⟩
         ·by_cases hpq:q=p
          ·subst hpq;rw[q0H _ q _ q (by rw[K.o];omega),k0p rfl,g3.o]
          ·rw[q0i _ _ hpq];exact a9.o q (by omega)
         ·have O:qb g=qb H:=e;injection O with O;have:=g0.o;omega
       ·obtain rfl:p=j+1:=by omega
        have c1:txt V=q0J N:=q97 HD.o (k:=j+1) F (by omega) a8.o (by rw[k0T];exact H0.o) b6.o K.o (fun i hi=>by rw[a9.o i hi,k0T]);have c2:∀x∈V,x<256:=by intro y hy;obtain⟨i,hi,rfl⟩:=List.getElem_of_mem hy;have e:=a9.o i (by omega);unfold nth at e;rw[k0b,k0b,k0n hi,k0n (by omega)] at e;have e9:V[i]=D[j-i]'(by omega)+48:=e;have:=HD.o (D[j-i]'(by omega)) (k2F _);omega
        have b0:=q2J (Go.Proofs.YtabcgemembkkcaaGreatDoor.B.own8_row (base:=0) b8.o K.o (k0x _) (by unfold maxLen;omega)) c2;rw[c1] at b0;have g4:=vv b0;have j2:=g4.o;have k8:¬((j:Int)+1<(j:Int)+1):=by omega
        clear c1 c2 v P f z b0;go_wp2;go_ret2;exact⟨rfl,b9.o⟩
  ·have T:0<M:=by
    rcases k01 M with h|h
    ·rw[h,q0h] at S;omega
    ·exact h
   have c8:=vv (k07 (q3W HV.o T) HN.o);have t1:qa ((0:Int)<(m:Int))=true:=k04 (by omega);obtain⟨R,b1⟩:=yx (M%1000000000);have g5:R<=999999999:=by omega
   have hs:=f5.o M m d u _ HR.o hm;rw[q04,<- b1] at hs;have g6:=vv b1;clear b1;go_wp2_with fail;refine hs.mono ?_;rintro e w2 ⟨rfl,⟨V,v,c9,d0⟩,s⟩;have d1:Hid (∀k,u5.ownBlock=qb k->k≠wr.heap.size):=vv fun k F=>by have:=(Go.Proofs.YtabcgemembkkcaaGreatDoor.B.row8_lt J.o k F).2;omega
   have g7:Hid (wr.heap.size<w2.heap.size):=vv v.lt;have d2:=v.rd (n:=m) (c:=m) c9.symm lr (by omega);have a3:=vv (q4e J.o fun g _ hg=>s.block g hg);have g8:Hid (w.heap.size+1<=w2.heap.size):=vv (by have:=a7.o;have:=I.o.size;have:=s.size;omega);have g9:=vv (I.o.trans (s.mono (by have:=a7.o;have:=I.o.size;omega)));clear s v;go_wp2_with fail;refine(f6.o _ _ _ _ _ d2).mono ?_;rintro e w3 ⟨Q,C,rfl,U,d3,s⟩;have d4:Hid (∀a,Q=qb a->a.block=wr.heap.size):=vv fun a e=>by have:=d3 a e;cases this;rfl
   have d5:Hid (wr.heap.size<w3.heap.size):=vv (k03 g7.o s.size);rw[d0] at U;have i1:C<=m:=by rw[<- U.words,<- S];exact q29 (k0q _ _)
   have i2:=vv U;have a4:=vv (q4e a3.o fun g _ hg=>s.block g hg);have i3:=vv (g9.o.trans (s.mono g8.o));clear s d2 c9 d0 U d3;obtain⟨G,hG⟩:=yx (wr.heap.size);rw[<- hG] at d1 d4 d5;clear hG;have k9:=q7M Q C C;clear hs;go_wp2_with fail;go_loopw [5,8,30] (fun b r i wx=>∃(q:Nat),q<=9/\i=.int .i64 (q:Int)/\r=.int .u32 ((R/10^q:Nat):Int)/\wx.ownsRow (w.heap.size+1) 5 1 b (D.length+q) (fg8 (D++q1z R q))/\qf (w.heap.size+1) w1 wx/\Rd wx Q C C (toL (M/1000000000))/\(∀k,b.ownBlock=qb k->k≠G)/\G<wx.heap.size) (fun _ _ i _=>(9-intOf i).toNat)
   case atStart=>exact⟨0,by decide,rfl,by rw[k0B,k1b],by rw[show q1z R 0=[] from rfl,List.append_nil];exact a4.o,i3.o,i2.o,d1.o,d5.o⟩
   case round =>
    obtain⟨q,hq,rfl,rfl,f,z,d6,d7,d8⟩:=hrel;obtain⟨Z,hZ⟩:=yx (R/10^q);have l0:Z<=999999999:=by rw[hZ];exact k07 (k0q _ _) g5
    rw[<- hZ];have HZ:=vv hZ;have a1:=vv f;have b2:=vv z;have d9:=vv d6;have e0:=vv d7;have e7:=vv d8;have a2:=Go.Proofs.YtabcgemembkkcaaGreatDoor.B.row8_lt f;have i4:=vv (Go.Proofs.YtabcgemembkkcaaGreatDoor.B.vlen_row f);clear hZ f z d6 d7 d8;by_cases hq9:q<9
    ·have e8:w.heap.size+1<=wr.heap.size:=k07 a7.o b2.o.size;have i5:=b4.o;go_wp2_with (at_builtin;refine wpList_append_own_at _ rfl _ _ 229 rfl (w.heap.size+1) 5 i0 (.int .u8 0) 1 1 underlying229 hi f1 f2 f3 rfl (by decide) _ (D.length+q) (fg8 (D++q1z R q)) rfl (a1.o.alloc _) ⟨wr.heap.size,0,qc⟩ 1 1 [.int .u8 (48+(Z:Int)%10)] rfl rfl (cell_one_new _ _ _) (by simp [Value.oneCell']) (by unfold maxLen;omega) (by omega) (by simp;omega) ?_);intro v' w5 X a0 _ f0;replace X:w5.ownsRow (w.heap.size+1) 5 1 v' (D.length+(q+1)) (fg8 (D++q1z R (q+1))):=by rw[show q1z R (q+1)=q1z R q++[R/10^q%10] from rfl,<- List.append_assoc,q9z,<- HZ.o];rw[show(((Z%10+48:Nat):Int))=48+(Z:Int)%10 by omega];exact X
     have a5:=vv X;have i6:=vv ((b2.o.alloc e8 (.cells #[.int .u8 (48+(Z:Int)%10)] 5)).grown a0 (by simp;omega) (fun e he=>(a2 e he).1));have i7:Hid (Rd w5 Q C C (toL (M/1000000000))):=vv (qca (d9.o.below ((Below.refl _ _).alloc lr _) rfl) a0 (fun a e he=>e0.o _ he (d4.o a e)));have i8:Hid (∀k,v'.ownBlock=qb k->k≠G):=vv (fun k F=>by
      rcases f0 with h|h
      ·rw[h] at F;exact e0.o k F
      ·rw[h] at F;have:=e7.o;simp at F;omega)
     have i9:Hid (G<w5.heap.size):=vv (k03 (by have:=e7.o;simp;omega) a0.size);obtain⟨Y,hY⟩:=yx (Z/10);have l1:(Z:Int)/10=(Y:Int):=by omega
     have HY:=vv hY;clear hY;clear X a0 f0 a2 e8 i5;go_wp2;go_roundw
     case measure=>simp [intOf];omega
     case rel=>exact⟨q+1,hq9,by go_num,by rw[k0d,<- k0h,<- HZ.o,<- HY.o],a5.o,i6.o,i7.o,i8.o,i9.o⟩
    ·obtain rfl:q=9:=by omega
     have l2:=Go.Proofs.YtabcgemembkkcaaGreatDoor.B.vlen_row J.o;have j3:=i1;go_wp2;go_roundw
     case measure =>have e1:=i4.o;have e2:=c8.o;omega
     case rel =>
      refine⟨M/1000000000,C,C,Q,D++q1z R 9,rfl,by omega,d9.o,by rw[k16,q2e];exact a1.o,fun d P=>?_,by rw[g6.o];exact qes HV.o,by rw[k16,q2e];have:=c8.o;omega,b2.o⟩;rcases k2P.1 P with h|h
      ·exact HD.o d h
      ·exact q88 _ _ d h
end Pnt
namespace R18
open Go Go.RowKit R5 Sh
def q0l(w:qd)(g:Nat)(q:Rat):Prop:=RatAt w g q.num q.den
theorem q0l.of{d:Nat}{p:Int}{q:Rat}(h:RatAt w g p d)(hq:q*(d:Rat)=(p:Rat)):q0l w g q:=by
 refine h.cross q.den_pos ?_;have a:=q3j q;have b:(p:Rat)*((q.den:Int):Rat)=(q.num:Rat)*((d:Int):Rat):=by
  rw[<- hq,<- a,k0J,k0J]
  grind
 exact_mod_cast b
theorem q0l.below{q:Rat}(h:q0l w g q)(hb:qf w.heap.size w w'):q0l w' g q:=RatAt.below h hb
theorem q0l.drew{q:Rat}(h:q0l w g q):q0l w.drew g q:=RatAt.drew h
theorem q0l.lt{q:Rat}(h:q0l w g q):g<w.heap.size:=RatAt.lt h
theorem q0l.zero(w:qd)(t:TypeId):q0l (w.alloc (.cells #[.bool false,.slice qc 0 0,.slice qc 0 0] t)) w.heap.size 0:=RatAt.zero w t
theorem q4X(a b:Rat):q1s b a = -q1s a b:=by
 unfold q1s;by_cases h1:a<b
 ·have c:¬b<a:=by grind
  simp [h1,c]
 ·by_cases c:b<a
  ·simp [h1,c]
  ·simp [h1,c]
theorem qcK(x y:Rat):q2P (x.num*y.den) (y.num*x.den)=q1s x y:=by unfold q2P q1s;simp only[k3a]
theorem q5p{B:Nat}{q:Rat}(h:Qb B q)(hB:B<=4294967296):Sz q.num.natAbs/\Sz q.den/\Sm q.num.natAbs/\Sm q.den:=by obtain⟨a,b⟩:=h;unfold Sz Sm;omega
theorem qd4(g gx:Nat)(x y:Rat)(w:qd)(hx:q0l w g x)(hy:q0l w gx y)(sx:Qb 1000000 x)(sy:Qb 1000000 y):qg qe 116 #[.pointer (qb ⟨g,0,qc⟩),.pointer (qb ⟨gx,0,qc⟩)] w fun e w'=>e=.returned (.int .i64 (q1s x y))/\qf w.heap.size w w':=by
 have a:=q5p sx (by decide);have b:=q5p sy (by decide);have:=B.CmpS g gx _ _ _ _ w hx hy a.1 a.2.1 b.1 b.2.1
 rwa [qcK] at this
theorem q7N(g gx gy:Nat)(x y:Rat)(w:qd)(hz:q0l w g 0)(hg:a.heap.size<=g)(hb:qf a.heap.size a w)(hx:q0l w gx x)(hy:q0l w gy y)(sx:Qb 1000000 x)(sy:Qb 1000000 y)(hst:Std w):qg qe 83 #[.pointer (qb ⟨g,0,qc⟩),.pointer (qb ⟨gx,0,qc⟩),.pointer (qb ⟨gy,0,qc⟩)] w fun e w'=>e=.returned (.pointer (qb ⟨g,0,qc⟩))/\q0l w' g (x*y)/\qf a.heap.size a w':=by
 have c:=q5p sx (by decide);have d:=q5p sy (by decide);refine(B.MulR g gx gy _ _ _ _ w (RatAt.sh hz) hx hy hst c.1 c.2.1 d.1 d.2.1).mono ?_;rintro e w' b;refine⟨b.1,q0l.of b.2.1 ?_,b.below hb hb.size hg⟩;have f:=q3j x;have h:=q3j y;rw[k2V,k2T,<- f,<- h]
 grind
theorem q7n(g gx gy:Nat)(x y:Rat)(w:qd)(hz:q0l w g 0)(hg:a.heap.size<=g)(hb:qf a.heap.size a w)(hx:q0l w gx x)(hy:q0l w gy y)(sx:Qb 1000000 x)(sy:Qb 1000000 y)(hst:Std w):qg qe 163 #[.pointer (qb ⟨g,0,qc⟩),.pointer (qb ⟨gx,0,qc⟩),.pointer (qb ⟨gy,0,qc⟩)] w fun e w'=>e=.returned (.pointer (qb ⟨g,0,qc⟩))/\q0l w' g (x-y)/\qf a.heap.size a w':=by
 have c:=q5p sx (by decide);have d:=q5p sy (by decide);refine(B.SubR g gx gy _ _ _ _ w (RatAt.sh hz) hx hy hst c.2.2.1 c.2.2.2 d.2.2.1 d.2.2.2).mono ?_;rintro e w' b;refine⟨b.1,q0l.of b.2.1 ?_,b.below hb hb.size hg⟩;have f:=q3j x;have h:=q3j y;rw[k2V,Rat.intCast_sub,k2T,k2T,k0J,k0J,<- f,<- h]
 grind
theorem q5w(g gx:Nat)(u:Int)(w:qd)(hz:q0l w g 0)(hg:a.heap.size<=g)(hb:qf a.heap.size a w)(hx:IntAt w gx 0 u):qg qe 41 #[.pointer (qb ⟨g,0,qc⟩),.pointer (qb ⟨gx,0,qc⟩)] w fun e w'=>e=.returned (.pointer (qb ⟨g,0,qc⟩))/\q0l w' g (u:Rat)/\qf a.heap.size a w':=by refine(B.SetInt g gx u w (RatAt.sh hz) hx).mono ?_;rintro e w' b;exact⟨b.1,q0l.of b.2.1 (by rw[show((1:Nat):Rat)=1 from rfl,k1Z]),b.below hb hb.size hg⟩
theorem q9u(g gx gy:Nat)(u:Int)(D:Nat)(q:Rat)(w:qd)(hz:q0l w g 0)(hg:a.heap.size<=g)(hb:qf a.heap.size a w)(hx:IntAt w gx 0 u)(hy:IntAt w gy 0 (D:Int))(hD:0<D)(hq:q*(D:Rat)=(u:Rat))(su:Sz u.natAbs)(sD:Sz D)(hst:Std w):qg qe 78 #[.pointer (qb ⟨g,0,qc⟩),.pointer (qb ⟨gx,0,qc⟩),.pointer (qb ⟨gy,0,qc⟩)] w fun e w'=>e=.returned (.pointer (qb ⟨g,0,qc⟩))/\q0l w' g q/\qf a.heap.size a w':=by refine(B.SetFrac g gx gy u D w (RatAt.sh hz) hx hy hD hst su sD).mono ?_;rintro e w' b;exact⟨b.1,q0l.of b.2.1 hq,b.below hb hb.size hg⟩
end R18
end Go.Proofs.YtabcgemembkkcaaGreatDoor
