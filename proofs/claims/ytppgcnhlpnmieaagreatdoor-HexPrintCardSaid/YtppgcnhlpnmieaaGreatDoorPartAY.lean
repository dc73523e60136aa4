/- Lemmas. -/
import Derived.Test.YtppgcnhlpnmieaaGreatDoorPartAX
import Derived.Laws.IdiomStrings
import Derived.Test.YtppgcnhlpnmieaaGreatDoorPartAO
import Derived.Test.YtppgcnhlpnmieaaGreatDoorPartAV
import Derived.Test.YtppgcnhlpnmieaaGreatDoorPartAK
import Derived.Test.YtppgcnhlpnmieaaGreatDoorPartAI
import Derived.Test.YtppgcnhlpnmieaaGreatDoorPartAJ
import Derived.Test.YtppgcnhlpnmieaaGreatDoorPartAU
set_option linter.all false
set_option maxHeartbeats 4000000
set_option maxRecDepth 100000
namespace Go.Proofs.YtppgcnhlpnmieaaGreatDoor
open Go Go.RowKit
theorem q9p(U:List Nat)(i x:Nat):q0p (U.set i x)=(q0p U).set i (.int .u32 (x:Int)):=by
 unfold q0p;rw[List.map_set]
theorem qaW{w:World}{base:Nat}{e:TypeId}{g n cap:Nat}{U:List Nat}(h:w.ownsRow base e 1 (.slice (some ⟨g,0,none⟩) n cap) n (q0p U))(i x:Nat):
  (w.setCell ⟨g,i,none⟩ (.int .u32 (x:Int))).ownsRow base e 1 (.slice (some ⟨g,0,none⟩) n cap) n (q0p (U.set i x)):=by
 obtain⟨h1,h2⟩:=h;rcases h2 with ⟨h,_⟩|⟨g',cap',cur,hv,hb,hg,hc,hm,hs,ht⟩
 ·cases h
 ·cases hv
  refine⟨by simpa [q0p] using h1,.inr ⟨g,cap,cur.setIfInBounds i (.int .u32 (x:Int)),rfl,hb,?_,hc,hm,by simpa using hs,?_⟩⟩
  ·simp [World.setCell,Array.getElem?_modify,hg]
  ·rw[q9p,<- ht];rw[Array.toList_setIfInBounds,List.take_set]
theorem q6E{w:World}{base:Nat}{e:TypeId}{g n cap:Nat}{U:List Nat}(h:w.ownsRow base e 1 (.slice (some ⟨g,0,none⟩) n cap) n (q0p U)){i:Nat}(hi:i<n):
  w.cell? ⟨g,i,none⟩=some (.int .u32 ((nth U i:Nat):Int))/\w.frozen? ⟨g,i,none⟩=false/\base<=g/\g<w.heap.size:=by
 have a0:U.length=n:=by have:=h.1;simpa [q0p] using this
 rcases h.2 with ⟨h,_⟩|⟨g',cap',cur,hv,hb,hg,hc,hm,hs,ht⟩
 ·cases h
 ·cases hv
  refine⟨?_,by simp [World.frozen?,hg],hb,(Array.getElem?_eq_some_iff.1 hg).1⟩;have e1:=q3C U (i:=i) (by omega);rw[<- ht,Nat.mul_one,List.getElem?_take,if_pos hi] at e1;simp only[World.cell?,hg];rw[<- e1];simp
theorem q85{w:World}{base:Nat}{e:TypeId}{v:Value}{n:Nat}{U:List Nat}(h:w.ownsRow base e 1 v n (q0p U))(hn:0<n):∃g cap,v=.slice (some ⟨g,0,none⟩) n cap/\base<=g:=by
 rcases h.2 with ⟨_,h0⟩|⟨g,cap,cur,hv,hb,_⟩
 ·omega
 ·exact⟨g,cap,hv,hb⟩
theorem q87{w:World}{base:Nat}{e:TypeId}{v:Value}{n:Nat}{U:List Nat}(h:w.ownsRow base e 1 v n (q0p U)):∃A cap,v=.slice A n cap:=by
 rcases h.2 with ⟨h2,rfl⟩|⟨g,cap,cur,hv,_⟩
 ·exact⟨none,0,h2⟩
 ·exact⟨_,_,hv⟩
theorem row_below{w w':World}{base B:Nat}{e:TypeId}{v:Value}{n:Nat}{U:List Nat}(h:w.ownsRow base e 1 v n (q0p U))(hb:Below B w w')(hB:B=w.heap.size):w'.ownsRow base e 1 v n (q0p U):=by
 refine⟨h.1,?_⟩;rcases h.2 with h2|⟨g,cap,cur,hv,a0,hg,hc,hm,hs,ht⟩
 ·exact .inl h2
 ·exact .inr ⟨g,cap,cur,hv,a0,(hb.block g (by rw[hB];exact(Array.getElem?_eq_some_iff.1 hg).1)).trans hg,hc,hm,hs,ht⟩
def mS(U:List Nat)(P y0 k:Nat):Nat:=val (U.take k)*P+y0
theorem q8t(U:List Nat)(P y0:Nat):mS U P y0 0=y0:=by simp [mS,val]
theorem q8u(U:List Nat)(P y0 k:Nat):mS U P y0 (k+1)=mS U P y0 k+4294967296^k*(nth U k*P):=by
 unfold mS;rw[q09,Nat.add_mul,Nat.mul_assoc];omega
theorem q6S(U:List Nat)(P y0 k:Nat):mS U P y0 k/4294967296^k+nth U k*P=mS U P y0 (k+1)/4294967296^k:=by
 rw[q8u,Nat.add_mul_div_left _ _ (Nat.pow_pos (by omega))]
theorem qcv(U:List Nat)(P y0 k:Nat):mS U P y0 (k+1)%4294967296^k=mS U P y0 k%4294967296^k:=by
 rw[q8u,Nat.add_mul_mod_self_left]
theorem qb6(U:List Nat)(P y0 k:Nat):mS U P y0 (k+1)%4294967296^(k+1)=mS U P y0 k%4294967296^k+4294967296^k*(mS U P y0 (k+1)/4294967296^k%4294967296):=by
 rw[Nat.pow_succ,Nat.mod_mul,qcv]
theorem qav(U:List Nat)(P y0 k:Nat):mS U P y0 (k+1)/4294967296^k/4294967296=mS U P y0 (k+1)/4294967296^(k+1):=by
 rw[Nat.pow_succ,Nat.div_div_eq_div_mul]
theorem q6R(U:List Nat)(hl:Lim U){P y0:Nat}(hy:y0<P):∀k,mS U P y0 k/4294967296^k<P
 | 0=>by rw[q8t];simpa using hy
 | k+1=>by
  have h1:=q6R U hl hy k;have h2:=q6S U P y0 k;have h3:nth U k<4294967296:=q2G hl k;rw[<- qav,<- h2];apply Nat.div_lt_of_lt_mul
  have h4:nth U k*P<=4294967295*P:=Nat.mul_le_mul_right _ (by omega);omega
theorem qaw(U:List Nat)(P y0:Nat):mS U P y0 U.length=val U*P+y0:=by unfold mS;rw[List.take_length]
structure MulAt(U L:List Nat)(P y0 k:Nat):Prop where
 len:L.length=U.length
 lim:Lim L
 low:val (L.take k)=mS U P y0 k%4294967296^k
 high:∀j,k<=j->nth L j=nth U j
theorem MulAt.start{U:List Nat}(hl:Lim U)(P y0:Nat):MulAt U U P y0 0:=⟨rfl,hl,by simp [val,Nat.mod_one],fun _ _=>rfl⟩
theorem MulAt.step{U L:List Nat}{P y0 k:Nat}(h:MulAt U L P y0 k)(hk:k<U.length):MulAt U (L.set k (mS U P y0 (k+1)/4294967296^k%4294967296)) P y0 (k+1):=by
 refine⟨by rw[List.length_set];exact h.len,q9d h.lim k (Nat.mod_lt _ (by omega)),?_,fun j hj=>?_⟩
 ·rw[q0j _ _ _ (by rw[h.len];exact hk),h.low,qb6]
 ·rw[q0e _ _ (by omega)];exact h.high j (by omega)
theorem MulAt.fin{U L:List Nat}{P y0:Nat}(h:MulAt U L P y0 U.length):val L=(val U*P+y0)%4294967296^U.length:=by
 have:=h.low;rw[<- h.len,List.take_length,h.len,qaw] at this;exact this
end Go.Proofs.YtppgcnhlpnmieaaGreatDoor
namespace Go.Proofs.YtppgcnhlpnmieaaGreatDoor.Pnt
open Go Go.RowKit R5
def q9c(N L:Nat)(w:World)(e:Ending)(w':World):Prop:=
 ∃V,e=.returned (.slice (some ⟨w.heap.size,0,none⟩) L L)/\Own w' w.heap.size 34 V/\V.length=L/\val V=N/\Below w.heap.size w w'
theorem qaU(A:Option Addr)(n c:Nat)(xs:List Nat)(s:Nat)(w:World)(ha:Rd w A n c xs)(hs:s<32)(hn:n<=16384):
  Calls Tryz.prog 134 #[.slice A n c,.int .i64 (s:Int)] w (q9c (val xs*2^s) (n+1) w):=by
 have a3:=ha.len;have b5:=Go.Proofs.YtppgcnhlpnmieaaGreatDoor.A.mk1 n (by omega);have b0:=vv a3;have b6:(n:Int)<=16384:=by omega
 have b7:(s:Int)<=31:=by omega
 clear a3;go_enter Tryz.func134,Tryz.ntmps134
 go_wp2;go_loopw [15] (fun i wr=>∃(j h:Nat) (V:List Nat),i=.int .i64 j/\j<=n/\V.length=n+0+1/\Own wr w.heap.size 34 V/\nth V (j+0)=h/\h<2^s /\
   val (V.take (j+0))+4294967296^(j+0)*h=4294967296^0*(2^s*val (xs.take j))/\Below w.heap.size w wr) (fun i _=>n-(intOf i).toNat)
 case atStart=>exact⟨0,0,List.replicate (n+1) 0,rfl,Nat.zero_le _,by simp,Own.made _ _ _,q0S _ _,Nat.two_pow_pos _,by simp [val,List.take_replicate,q0d],(Below.refl _ _).alloc lr _⟩
 case round =>
  obtain⟨j,h,V,rfl,hj,a6,a0,hh,a7,a4,a2⟩:=hrel;have HV:=vv a4;have HL:=vv a6;have HH:=vv hh;have HO:=vv a0;have a8:=vv a7;clear a4 a6 hh a7;have hg:=a0.lt;by_cases hjn:j<n
  ·obtain⟨b,off,rfl,b1,a1⟩:=ha.cell (by omega);have hx:wr.cell? ⟨b,off+j,none⟩=some (.int .u32 ((nth xs j:Nat):Int)):=(a2.cell (p:=⟨b,off+j,none⟩) b1).trans (a1 j hjn);clear a1;have a9:=ha.nth_lt j;have ho:=a0.cell (i:=j) (by rw[HL.o];omega);have hf:=a0.frozen j;have b8:=a0.cell (i:=j+1) (by rw[HL.o];omega);have b9:=a0.frozen (j+1);rw[show nth V j=h from HH.o] at ho;have a5:h<4294967296:=by have h1:=a8.o;have h2:2^s<=2^31:=Nat.pow_le_pow_right (by omega) (by omega);omega
   have UP:=vv (q3B a9 hs);have UW:=vv (q65 (h:=h) UP.o.2.2 a5);have ST:=vv (q66 (k:=0) (by rw[HL.o];omega) HH.o a8.o rfl a9 hs HV.o);clear a0;go_wp2;go_roundw
   case rel =>
    have b2:h ||| (nth xs j*2^s)%4294967296<4294967296:=Nat.or_lt_two_pow (n:=32) a5 (Nat.mod_lt _ (by omega));refine⟨j+1,(nth xs j*2^s)/4294967296,(V.set (j+0) (h ||| (nth xs j*2^s)%4294967296)).set (j+0+1) ((nth xs j*2^s)/4294967296),by go_num,by omega,by rw[List.length_set,List.length_set];exact HL.o,
     (HO.o.set (by rw[HL.o];omega) b2 UW.o.1).set (by rw[List.length_set,HL.o];omega) (by have:=UP.o.2.2;omega) UW.o.2,?_,UP.o.2.1,ST.o,(a2.setCell lr _).setCell lr _⟩
    rw[show j+1+0=j+0+1 by omega,q0H _ _ _ _ (by rw[List.length_set,HL.o];omega),if_pos rfl]
   case measure=>simp [intOf];omega
  ·obtain rfl:j=n:=by omega
   have hv:=q67 HL.o (by rw[b0.o];exact lr) HH.o HV.o;rw[Nat.mul_zero,Nat.zero_add] at hv;have b3:=vv hv;clear hv;have b4:=vv a0;clear a0;go_wp2;go_ret
   exact⟨V,rfl,b4.o,HL.o,b3.o,a2⟩
theorem qb8(A:Option Addr)(n c:Nat)(xs:List Nat)(s:Nat)(w:World)(ha:Rd w A n c xs)(hs:s<32)(hn:n<=16384):
  Calls Tryz.prog 167 #[.slice A n c,.int .i64 (s:Int)] w (q9c (val xs/2^s) n w):=by
 have a2:=ha.len;have b6:=Go.Proofs.YtppgcnhlpnmieaaGreatDoor.A.mk n (by omega);have b7:=vv a2;have b8:(n:Int)<=16384:=by omega
 have b9:(s:Int)<=31:=by omega
 have b2:Hid (nth xs n=0):=vv (q0P xs n (by rw[a2];exact lr));clear a2;go_enter Tryz.func167,Tryz.ntmps167
 go_wp2;go_loopw [6,7] (fun y i wr=>∃(j:Nat) (V:List Nat),i=.int .i64 ((j:Int)-1)/\y=.int .u64 ((nth xs j:Nat):Int)/\j<=n/\V.length=n/\Own wr w.heap.size 34 V/\(∀p,j<=p->p<n->nth V p=(val xs/2^s)/4294967296^p%4294967296)/\Below w.heap.size w wr) (fun _ i _=>(intOf i+1).toNat)
 case atStart=>exact⟨n,List.replicate n 0,rfl,by rw[b2.o];rfl,lr,by simp,Own.made _ _ _,fun p hp a6=>absurd hp (by omega),(Below.refl _ _).alloc lr _⟩
 case round =>
  obtain⟨j,V,rfl,rfl,hj,a7,a0,hd,a3⟩:=hrel;have HL:=vv a7;have HO:=vv a0;have HD:=vv hd;clear a7 hd;have hg:=a0.lt;rcases Nat.eq_zero_or_pos j with rfl|c0
  ·have hv:val V=val xs/2^s:=by
    have h1:=q15 (U:=V) (Q:=val xs/2^s) fun i hi=>HD.o i (Nat.zero_le _) (by rw[HL.o] at hi;exact hi)
    have h2:=ha.lt;rw[h1,HL.o,Nat.mod_eq_of_lt (Nat.lt_of_le_of_lt (Nat.div_le_self _ _) h2)]
   have b3:=vv hv;have b4:=vv a0;clear hv a0;go_wp2;go_ret
   exact⟨V,rfl,b4.o,HL.o,b3.o,a3⟩
  ·obtain⟨i,rfl⟩:∃i,j=i+1:=⟨j-1,by omega⟩;have a8:((i+1:Nat):Int)-1=(i:Int):=by omega
   rw[a8];obtain⟨b,off,rfl,b5,a1⟩:=ha.cell (by omega);have hx:wr.cell? ⟨b,off+i,none⟩=some (.int .u32 ((nth xs i:Nat):Int)):=(a3.cell (p:=⟨b,off+i,none⟩) b5).trans (a1 i (by omega));clear a1;have a9:=ha.nth_lt i;have b0:=ha.nth_lt (i+1);have ho:=a0.cell (i:=i) (by rw[HL.o];omega);have hf:=a0.frozen i;have a4:=vv (q2a ha.lim i s hs);have c1:(i:Int)<(n:Int):=by omega
   have HM:Hid (((i:Int)-1+1).toNat<((i:Int)+1).toNat):=vv (by omega);obtain⟨x,a5⟩:=yx (nth xs i);obtain⟨y,b1⟩:=yx (nth xs (i+1));rw[<- a5] at hx a9 a4;rw[<- b1] at b0 a4 ⊢;have HX:=vv a5;have DW:Hid (bits .or .u64 ((y:Int)*4294967296) (x:Int)/2^s%4294967296=(((x+4294967296*y)/2^s%4294967296:Nat):Int)):=vv (by
    rw[q7M x y a9 b0,q1K];generalize (x+4294967296*y)/2^s=Q;omega)
   have c2:(x:Int)<=4294967295:=by omega
   have c3:(y:Int)<=4294967295:=by omega
   clear a0 a5 b1 a8;go_wp2;go_roundw
   case rel =>
    refine⟨i,V.set i ((x+4294967296*y)/2^s%4294967296),rfl,by rw[HX.o],by omega,by rw[List.length_set];exact HL.o,HO.o.set (by rw[HL.o];omega) (Nat.mod_lt _ (by omega)) DW.o,fun p hp a6=>?_,a3.setCell lr _⟩;by_cases hpi:p=i
    ·subst hpi;rw[q0H V p _ p (by rw[HL.o];omega),if_pos rfl];exact a4.o
    ·rw[q0e _ _ hpi];exact HD.o p (by omega) a6
   case measure=>exact HM.o
end Go.Proofs.YtppgcnhlpnmieaaGreatDoor.Pnt
namespace Go.Proofs.YtppgcnhlpnmieaaGreatDoor
open Go Go.RowKit
theorem q21(t:ByteArray):t.data.toList.length=t.size:=Array.length_toList
theorem q9G(t:ByteArray)(a b:Nat):(t.extract a b).data.toList=(t.data.toList.take b).drop a:=by
 rw[ByteArray.data_extract,Array.toList_extract,List.extract_eq_drop_take']
end Go.Proofs.YtppgcnhlpnmieaaGreatDoor
namespace Go.Proofs.YtppgcnhlpnmieaaGreatDoor.A
open Go Go.RowKit
theorem q9M(B:Nat)(v:Value)(U:List Nat)(m c:Nat)(w:World)(hr:w.ownsRow B 34 1 v U.length (q0p U))(hl:Lim U)(hm:m<4294967296)(hc:c<m)(hU:U.length<=1000000000)(hB:B<=w.heap.size):
  Calls Tryz.prog 383 #[v,.int .u32 (m:Int),.int .u32 (c:Int)] w fun e w'=>∃v' L,e=.returned v'/\w'.ownsRow B 34 1 v' L.length (q0p L)/\Lim L/\val L=val U*m+c/\L.length<=U.length+1/\Below B w w':=by
 obtain⟨i0,hi,c3,c4,c5⟩:=info_parts Go.Proofs.YtppgcnhlpnmieaaGreatDoor.B.inf;obtain⟨A,cap,rfl⟩:=q87 hr;have HR:=vv hr;have HL:=vv hl;have c6:=vv (q6R U hl hc);have b3:=vv hB;have c7:(U.length:Int)<=1000000000:=by omega
 have d6:(m:Int)<=4294967295:=by omega
 have d7:(c:Int)<=4294967295:=by omega
 have d8:=vv hm;clear hr hl hU hB;go_enter Tryz.func383,Tryz.ntmps383
 go_wp2;go_loopw [7,8] (fun y q wr=>∃(k:Nat) (L:List Nat),k<=U.length/\q=.int .i64 (k:Int)/\y=.int .u64 ((mS U m c k/4294967296^k:Nat):Int)/\MulAt U L m c k/\wr.ownsRow B 34 1 (.slice A U.length cap) U.length (q0p L)/\Below B w wr) (fun _ q _=>U.length-(intOf q).toNat)
 case atStart=>exact⟨0,U,Nat.zero_le _,rfl,by rw[q8t,Nat.pow_zero,Nat.div_one],MulAt.start HL.o m c,HR.o,Below.refl _ _⟩
 case round =>
  obtain⟨q,L,hq,rfl,rfl,hM,a0,hB⟩:=hrel;have HM:=vv hM;have b6:=vv a0;have b4:=vv hB;have a8:=c6.o q;by_cases hqn:q<U.length
  ·obtain⟨g,cap',e,b7⟩:=q85 a0 (by omega);cases e
   obtain⟨r1,r2,r3,r4⟩:=q6E a0 hqn;rw[hM.high q lr] at r1;have a9:nth U q<4294967296:=q2G HL.o q;have b8:=q6S U m c q;obtain⟨Z,hZ⟩:=yx (mS U m c (q+1)/4294967296^q);obtain⟨y,a7⟩:=yx (mS U m c q/4294967296^q);obtain⟨v,hv⟩:=yx (nth U q);obtain⟨M,b5⟩:=yx (v*m);rw[<- hZ,<- a7,<- hv,<- b5] at b8;rw[<- hv] at r1 a9;rw[<- a7] at a8 ⊢;have b9:(v:Int)*(m:Int)=(M:Int):=by rw[b5,Int.natCast_mul]
   have c8:(M:Int)+(y:Int)=(Z:Int):=by omega
   have d9:(M:Int)<=18446744065119617025:=by
    have b1:v*m<=4294967295*4294967295:=Nat.mul_le_mul (by omega) (by omega);rw[<- b5] at b1;omega
   have e0:(v:Int)<=4294967295:=by omega
   have c9:(y:Int)<=4294967295:=by omega
   have e1:(Z:Int)<=18446744069414584320:=by omega
   have b0:=vv (hM.step hqn);have HZ:=vv hZ;have d0:Hid ((wr.setCell ⟨g,q,none⟩ (.int .u32 ((Z:Int)%4294967296))).ownsRow B 34 1 (.slice (some ⟨g,0,none⟩) U.length cap) U.length (q0p (L.set q (Z%4294967296)))):=vv (by
    have:=qaW a0 q (Z%4294967296);rw[Int.natCast_emod] at this;exact this)
   have b3:=vv (hB.setCell (p:=⟨g,q,none⟩) (show B<=g by omega) (.int .u32 ((Z:Int)%4294967296)));have e2:(q:Int)<(U.length:Int):=by omega
   clear hM a0 hB a8 a9 b8 hZ a7 hv b5;go_wp2;go_roundw
   case rel =>
    refine⟨q+1,L.set q (Z%4294967296),by omega,by go_num,congrArg _ ?_,?_,d0.o,b3.o⟩
    ·rw[<- qav,<- HZ.o];omega
    ·rw[HZ.o];exact b0.o
   case measure=>simp [intOf];omega
  ·have d1:q=U.length:=by omega
   subst d1;obtain⟨S,hS⟩:=yx (val U*m+c);have a5:=HM.o.fin;have a6:=qaw U m c;rw[<- hS] at a5 a6;have c0:=vv hS;rw[a6] at a8 ⊢;have b2:=vv HM.o.len;have a2:=vv (Nat.div_add_mod S (4294967296^U.length));obtain⟨y,a7⟩:=yx (S/4294967296^U.length);rw[<- a7] at a8 a2 ⊢;rw[<- a5] at a2;have c1:=vv HM.o.lim;have c9:(y:Int)<=4294967295:=by omega
   clear a6 a5 a7 hS a8;by_cases hy0:0<y
   ·have e3:=vv (show(U.length:Int)<=1000000000 from c7);clear hM a0 hB;go_wp2_with (at_builtin;refine wpList_append_own _ rfl _ _ 26 rfl B 34 i0 (.int .u32 0) 1 4 Tryz.underlying26 hi c3 c4 c5 rfl (by decide) _ U.length (q0p L) rfl (b6.o.alloc _) ⟨wr.heap.size,0,none⟩ 1 1 [.int .u32 (y:Int)] rfl rfl (cell_one_new _ _ _) (by simp [Value.oneCell']) (by unfold maxLen;omega) (by omega) (by have:=b4.o.size;have:=b3.o;simp;omega) ?_)
    intro v' w5 a3 a1 _;have a4:w5.ownsRow B 34 1 v' (U.length+1) (q0p (L++[y])):=by
     have e:q0p (L++[y])=q0p L++[.int .u32 (y:Int)]:=by simp [q0p]
     rw[e];exact a3
    have b7:=b6.o.lt;have c2:Below B w w5:=by
     have d2:B<=wr.heap.size:=Nat.le_trans b3.o b4.o.size;exact(b4.o.alloc d2 _).grown a1 (by simp;omega) (fun k h=>(b7 k h).1)
    have d3:=vv a4;have d4:=vv c2;clear a3 a1 a4 c2 b7;go_wp2;go_ret
    refine⟨v',L++[y],rfl,?_,q1G.2 ⟨c1.o,q0v.2 ⟨by omega,q0M⟩⟩,?_,by rw[List.length_append,b2.o];exact lr,d4.o⟩
    ·rw[List.length_append,b2.o];exact d3.o
    ·rw[q4F,b2.o,Nat.add_comm,<- c0.o];exact a2.o
   ·have d5:y=0:=by omega
    subst d5;clear hy0 hM a0 hB;go_wp2;go_ret
    refine⟨_,L,rfl,by rw[b2.o];exact b6.o,c1.o,?_,by rw[b2.o];omega,b4.o⟩;have:=a2.o;rw[Nat.mul_zero,Nat.zero_add] at this;rw[<- c0.o];exact this
def fig(d:Nat):Nat:=if d<10 then 48+d else 87+d
theorem q7Q(c:Nat)(w:World)(h1:48<=c)(h2:c<=57):Calls Tryz.prog 382 #[.int .u8 (c:Int)] w fun e w'=>e=.returned (.int .u32 ((c:Int)-48))/\w=w':=by
 have a0:(48:Int)<=(c:Int):=by omega
 have a1:(c:Int)<=57:=by omega
 go_enter Tryz.func382,Tryz.ntmps382
 go_wp2;go_ret
 exact⟨rfl,rfl⟩
theorem q7j(c:Nat)(w:World)(h1:97<=c)(h2:c<=122):Calls Tryz.prog 382 #[.int .u8 (c:Int)] w fun e w'=>e=.returned (.int .u32 ((c:Int)-87))/\w=w':=by
 have a0:(97:Int)<=(c:Int):=by omega
 have a1:(c:Int)<=122:=by omega
 go_enter Tryz.func382,Tryz.ntmps382
 go_wp2;go_ret
 exact⟨q0T (by omega),rfl⟩
theorem qd7(d:Nat)(w:World)(h:d<16):Calls Tryz.prog 382 #[.int .u8 ((fig d:Nat):Int)] w fun e w'=>e=.returned (.int .u32 (d:Int))/\w=w':=by
 unfold fig;split
 ·refine(q7Q (48+d) w (by omega) (by omega)).mono ?_;rintro e w' ⟨rfl,rfl⟩;exact⟨q0T (by omega),rfl⟩
 ·refine(q7j (87+d) w (by omega) (by omega)).mono ?_;rintro e w' ⟨rfl,rfl⟩;exact⟨q0T (by omega),rfl⟩
theorem Rsh(g o gx ox k:Nat)(v u:Int)(w:World)(h:IntAt w g o v)(hx:IntAt w gx ox u)(hu:0<=u)(hk:k<1000000000000):
  Calls Tryz.prog 259 #[.pointer (some ⟨g,o,none⟩),.pointer (some ⟨gx,ox,none⟩),.int .u64 (k:Int)] w (q0i g o (u/2^k) w):=by
 have HI:=vv h;have a0:=hx.lt;obtain⟨A,n,c,h0,h1,hr,hz⟩:=hx.ex;have hd:decide (u<0)=false:=decide_eq_false (by omega);rw[hd] at h0;have a2:IntKind.i64.wrap (k:Int)=(k:Int):=by rw[IntKind.wrap_i64];omega
 have HM:=vv (qaC A n c _ k _ rfl w hr (by omega));have HU:Hid ((u/2^k).natAbs=u.natAbs/2^k):=vv (by
  obtain⟨N,rfl⟩:∃N:Nat,u=(N:Int):=⟨u.toNat,by omega⟩;have:((N:Int)/2^k)=((N/2^k:Nat):Int):=by rw[Int.natCast_ediv,Int.natCast_pow];rfl
  rw[this];rfl)
 have HP:Hid (0<=u/2^k):=vv (Int.ediv_nonneg hu (by
  have:(0:Int)<2^k:=by exact_mod_cast Nat.pow_pos (n:=k) (show 0<2 by decide)
  omega))
 clear hr hz h hx hk hu hd;go_enter Tryz.func259,Tryz.ntmps259
 go_wp2_with fail
 refine HM.o.mono ?_;rintro e w1 ⟨A',m',c',rfl,hR,a1,hB⟩;have HB:=vv hB;have j0:=(hB.cell (p:=⟨gx,ox,none⟩) a0).trans h0;have j1:=(hB.cell (p:=⟨gx,ox+1,none⟩) a0).trans h1;rw[q00] at hR;have HR:=vv hR;have HF:=vv a1;have a3:gx<w1.heap.size:=Nat.lt_of_lt_of_le a0 hB.size;clear hR a1 hB h0 h1 a0;go_wp2_with fail
 refine(q0m g o v (u/2^k) _ A' m' c' (u.natAbs/2^k) _ (HI.o.below HB.o) HR.o (fun a e=>(HF.o a e).2) HU.o (q1w HP.o)).mono ?_;rintro e w2 ⟨rfl,hI,hF⟩;go_wp2;go_ret
 exact⟨rfl,hI,(Fm.of_below HB.o HI.o.lt).trans hF⟩
theorem TrailingZeroBits(g o:Nat)(u:Int)(w:World)(h:IntAt w g o u)(hu:u≠0)(hs:Std w):
  Calls Tryz.prog 344 #[.pointer (some ⟨g,o,none⟩)] w fun e w'=>e=.returned (.int .u64 ((tz u.natAbs:Nat):Int))/\w=w':=by
 have a0:=h.lt;obtain⟨A,n,c,h0,h1,hr,hz⟩:=h.ex;have HZ:=vv (q10 A n c u.natAbs w hr (by omega) hs);have hb:(tz u.natAbs:Int)<18446744073709551616:=by
  have h1:=q0Y (n:=u.natAbs) (by omega);have h2:=bl_words u.natAbs;have h3:=hr.words;have h4:=hr.sm;omega
 have hw:IntKind.u64.wrap ((tz u.natAbs:Nat):Int)=((tz u.natAbs:Nat):Int):=by rw[IntKind.wrap_u64];omega
 clear hr hz h hs hu;go_enter Tryz.func344,Tryz.ntmps344
 go_wp2_with fail
 refine HZ.o.mono ?_;rintro e w1 ⟨rfl,rfl⟩;go_wp2;go_ret
 exact⟨rfl,rfl⟩
def wv(l:List Nat):Nat:=l.foldl (fun n d=>16*n+d) 0
theorem qaN(l:List Nat):∀n,l.foldl (fun n d=>16*n+d) n=n*16^l.length+wv l:=by
 induction l with
 | nil=>intro n;simp [wv]
 | cons a l ih =>
  intro n;show l.foldl _ (16*n+a)=_;unfold wv;rw[ih,List.foldl_cons,ih (16*0+a),List.length_cons,Nat.pow_succ];rw[Nat.add_mul,Nat.mul_zero,Nat.zero_add,Nat.add_assoc,Nat.mul_comm 16 n,Nat.mul_assoc,Nat.mul_comm 16]
theorem q3K(a b:List Nat):wv (a++b)=wv a*16^b.length+wv b:=by
 unfold wv;rw[List.foldl_append];exact qaN b _
theorem qaM(a:List Nat)(d:Nat):wv (a++[d])=16*wv a+d:=by
 rw[q3K,List.length_singleton,Nat.pow_one,Nat.mul_comm];show _+(16*0+d)=_;omega
theorem wv_lt{l:List Nat}(h:∀d∈l,d<16):wv l<16^l.length:=by
 have:∀l:List Nat,(∀d∈l,d<16)->wv l<16^l.length:=by
  intro l
  induction l with
  | nil=>intro _;decide
  | cons a l ih =>
   intro h;have h1:=ih fun d hd=>h d (List.mem_cons_of_mem _ hd)
   have h2:=h a List.mem_cons_self;have e:=q3K [a] l;rw[List.singleton_append] at e;rw[e,List.length_cons,Nat.pow_succ];have e2:wv [a]=a:=by show 16*0+a=a;omega
   rw[e2];have h3:a*16^l.length<=15*16^l.length:=Nat.mul_le_mul_right _ (by omega);omega
 exact this l h
structure Hexs(s:ByteArray)(l:List Nat):Prop where
 len:s.size=l.length
 at_:∀i (h:i<s.size),(s[i]'h).toNat=fig (l.getD i 0)
 small:∀i,l.getD i 0<16
theorem Hexs.mem{s:ByteArray}{l:List Nat}(h:Hexs s l):∀d∈l,d<16:=by
 intro d hd;obtain⟨i,hi,rfl⟩:=List.mem_iff_getElem.1 hd;have:=h.small i
 rwa [List.getD_eq_getElem?_getD,List.getElem?_eq_getElem hi] at this
theorem Hexs.cut{s t:ByteArray}{l:List Nat}(h:Hexs s l){a b:Nat}(ht:t.data.toList=(s.data.toList.drop a).take b):Hexs t ((l.drop a).take b):=by
 have hs:t.size=min b (s.size-a):=by rw[<- q21,ht,List.length_take,List.length_drop,q21]
 refine⟨by rw[hs,List.length_take,List.length_drop,h.len],fun i hi=>?_,fun i=>?_⟩
 ·have a1:t.data.toList[i]?=s.data.toList[a+i]?:=by rw[ht,List.getElem?_take,if_pos (by omega),List.getElem?_drop]
  rw[List.getElem?_eq_getElem (by rw[q21];exact hi),List.getElem?_eq_getElem (by rw[q21];omega)] at a1;have a2:t[i]=s[a+i]'(by omega):=Option.some.inj a1;rw[a2,h.at_ (a+i) (by omega)];rw[List.getD_eq_getElem?_getD,List.getD_eq_getElem?_getD,List.getElem?_take,if_pos (by omega),List.getElem?_drop]
 ·rw[List.getD_eq_getElem?_getD,List.getElem?_take];split
  ·rw[List.getElem?_drop,<- List.getD_eq_getElem?_getD];exact h.small _
  ·decide
theorem q6j(w:World):Rd (w.alloc (.cells #[.int .u32 1] 34)) (some ⟨w.heap.size,0,none⟩) 1 1 [1]:=
 (Own.lit (t:=34) [1] (q0v.2 ⟨by omega,q0M⟩) rfl).rd rfl lr (by decide)
theorem q6x(h j:Nat):(bits .and .i64 ((h:Int)/2^j) 1==1)=decide (h/2^j%2=1):=by
 rw[q1K];have e:bits .and .i64 ((h/2^j:Nat):Int) 1=((h/2^j%2:Nat):Int):=by
  generalize h/2^j=n;have a0:(BitVec.ofInt 64 1).toNat=2^1-1:=by decide
  have key:(BitVec.ofInt 64 (n:Int) &&& BitVec.ofInt 64 1).toNat=((n:Int)%((2^64:Nat):Int)).toNat%2^1:=by
   rw[BitVec.toNat_and,BitVec.toNat_ofInt,a0,Nat.and_two_pow_sub_one_eq_mod]
  show IntKind.i64.wrap ((BitVec.ofInt 64 (n:Int) &&& BitVec.ofInt 64 1).toNat:Nat)=_;rw[key,IntKind.wrap_i64];omega
 rw[e];rcases Nat.mod_two_eq_zero_or_one (h/2^j) with h|h<;>rw[h]<;>rfl
theorem q16(n:Nat)(h:n<=131072){A:Option Addr}{m c:Nat}{w:World}(hr:Rd w A m c (toL (16^n))):m<=16385:=by
 obtain⟨k,hk⟩:=yx (16385);rw[<- hk];refine hr.bound (k:=k) ?_;have e:(4294967296:Nat)^k=2^(32*k):=by rw[Nat.pow_mul]
 have e2:(16:Nat)^n=2^(4*n):=by rw[Nat.pow_mul]
 rw[e,e2];exact Nat.pow_lt_pow_right (by decide) (by omega)
theorem q6c(h j:Nat):16^(h/2^j)=16^(h/2^(j+1))*16^(h/2^(j+1))*16^(h/2^j%2):=by
 have e:=q2v h j;have e2:h/2^j=h/2^(j+1)+h/2^(j+1)+h/2^j%2:=by omega
 conv=>lhs;rw[e2]
 rw[Nat.pow_add,Nat.pow_add]
def qbP(h:Nat)(w:World)(v q:Value)(wr:World):Prop:=
 ∃(k:Nat) (A:Option Addr) (m c:Nat),q=.int .i64 ((k:Int)-1)/\k<=63/\v=.slice A m c/\Rd wr A m c (toL (16^(h/2^k)))/\Fr w.heap.size A/\Below w.heap.size w wr
theorem q7X{A:Option Addr}{m c P:Nat}{w:World}(hR:Rd w A m c (toL P))(hm:m<=20000):Calls Tryz.prog 273 #[.slice A m c,.slice A m c] w (q0c (P*P) w):=by
 have:=q0I A A m m c c _ _ w hR hR (by omega)
 rwa [q00] at this
theorem qcI{A:Option Addr}{m c P:Nat}{w:World}(hR:Rd w A m c (toL P))(hm:m<=20000):
  Calls Tryz.prog 273 #[.slice A m c,.slice (some ⟨w.heap.size,0,none⟩) 1 1] (w.alloc (.cells #[.int .u32 16] 34)) (q0c (P*16) w):=by
 have hb:Below w.heap.size w (w.alloc (.cells #[.int .u32 16] 34)):=(Below.refl _ _).alloc lr _;have h2:Rd (w.alloc (.cells #[.int .u32 16] 34)) (some ⟨w.heap.size,0,none⟩) 1 1 [16]:=(Own.lit (t:=34) [16] (q0v.2 ⟨by omega,q0M⟩) rfl).rd rfl lr (by decide);refine(q0I A _ m 1 c 1 _ _ _ (hR.below hb rfl) h2 (by omega)).mono ?_;rintro e w' ⟨A',m',c',rfl,hr,hf,hB⟩;rw[q00] at hr;exact⟨A',m',c',rfl,hr,hf.mono (by simp),hb.trans (hB.mono (by simp))⟩
theorem q7q(h:Nat)(w:World)(hh:h<=65536):
  Calls Tryz.prog 381 #[.int .i64 16,.int .i64 (h:Int)] w (q0c (16^h) w):=by
 have c7:(h:Int)<=65536:=by omega
 have HE:Hid (∀k,h/2^k<=65536):=vv fun k=>Nat.le_trans (Nat.div_le_self _ _) hh
 have H0:Hid (qbP h w (.slice (some ⟨w.heap.size,0,none⟩) 1 1) (.int .i64 62) (w.alloc (.cells #[.int .u32 1] 34))):=vv (by
  refine⟨63,_,_,_,rfl,by decide,rfl,?_,Fr.at_ lr,(Below.refl _ _).alloc lr _⟩;rw[Nat.div_eq_of_lt (Nat.lt_of_le_of_lt hh (by decide))];exact q6j w)
 go_enter Tryz.func381,Tryz.ntmps381
 go_wp2;go_loopw [5,6] (fun v q wr=>qbP h w v q wr) (fun _ q _=>(intOf q+1).toNat)
 case atStart=>exact H0.o
 case round =>
  obtain⟨k,A,m,c,rfl,hk,rfl,hr,hF,hB⟩:=hrel;have c8:=q16 _ (by have:=HE.o k;omega) hr;have HR:=vv hr;have HF:=vv hF;have HB:=vv hB;rcases Nat.eq_zero_or_pos k with rfl|c9
  ·rw[Nat.pow_zero,Nat.div_one] at HR;clear hr hF hB H0;go_wp2;go_ret
   exact⟨_,_,_,rfl,HR.o,HF.o,HB.o⟩
  ·obtain⟨j,rfl⟩:∃j,k=j+1:=⟨k-1,by omega⟩;have c4:((j+1:Nat):Int)-1=(j:Int):=by omega
   rw[c4];have c5:(j:Int)<=62:=by omega
   have b6:=vv (q6c h j);obtain⟨P,hP⟩:=yx (16^(h/2^(j+1)));rw[<- hP] at HR b6;have b1:0<P:=by rw[hP];exact Nat.pow_pos (by decide)
   have HQ:Hid (∀{A:Option Addr} {m c:Nat} {w:World},Rd w A m c (toL (P*P))->m<=20000):=vv fun hr=>by
    rw[hP,<- Nat.pow_add] at hr;exact Nat.le_trans (q16 _ (by have:=HE.o (j+1);omega) hr) (by decide)
   have HM:Hid (((j:Int)-1+1).toNat<((j:Int)+1).toNat):=vv (by omega);have a0:Hid (∀(A:Option Addr) (m c b:Nat) (wr:World),h/2^j%2=b->Rd wr A m c (toL (P*P*16^b))->Fr w.heap.size A->Below w.heap.size w wr->qbP h w (.slice A m c) (.int .i64 ((j:Int)-1)) wr):=vv fun A m c b wr e hr hF hB=>⟨j,A,m,c,rfl,by omega,rfl,by rw[b6.o,e];exact hr,hF,hB⟩
   have b2:=vv (q6x h j);have b3:0<m:=by
    rcases Nat.eq_zero_or_pos m with e|e
    ·subst e;have:=HR.o.words;rw[q05] at this;omega
    ·exact e
   obtain⟨b,off,rfl,d0,a3⟩:=HR.o.cell b3;have b7:=a3 0 b3;rw[Nat.add_zero] at b7;have a8:(h/2^j%2=0/\(bits .and .i64 ((h:Int)/2^j) 1==1)=false)\/(h/2^j%2=1/\(bits .and .i64 ((h:Int)/2^j) 1==1)=true):=by
    rw[b2.o];rcases Nat.mod_two_eq_zero_or_one (h/2^j) with e|e<;>rw[e]
    ·exact .inl ⟨rfl,rfl⟩
    ·exact .inr ⟨rfl,rfl⟩
   have a9:(P=1/\m=1/\nth (toL P) 0=1)\/(m=1/\1<nth (toL P) 0)\/1<m:=by
    rcases(by omega:1<m\/m=1) with e|e
    ·exact .inr (.inr e)
    ·have hw:=HR.o.words;rw[e] at hw;have hn:nth (toL P) 0=P:=by
      have h1:=q00 P;have h2:(toL P).length=1:=HR.o.len.trans e;obtain⟨x,hx⟩:∃x,toL P=[x]:=List.length_eq_one_iff.1 h2;rw[hx] at h1 ⊢;have:val [x]=x:=by simp [val]
      rw[this] at h1;rw[h1];rfl
     rcases(by omega:P=1\/1<P) with e1|e1
     ·exact .inl ⟨e1,e,hn.trans e1⟩
     ·exact .inr (.inl ⟨e,by omega⟩)
   clear hr hF hB a3 hP H0 b1 b3;have b0:=vv (q7X HR.o (by omega));rcases a9 with ⟨rfl,rfl,hn⟩|⟨rfl,hn⟩|d1
   ·rw[hn] at b7;have b8:Hid (Rd wr (some ⟨b,off,none⟩) 1 c (toL (1*1))):=HR;clear hn;rcases a8 with ⟨a1,b4⟩|⟨a1,b4⟩
    ·have a6:=vv a1;clear a1;go_wp2;go_roundw
     case rel=>exact a0.o _ _ _ 0 _ a6.o b8.o HF.o HB.o
     case measure=>exact HM.o
    ·have a6:=vv a1;have a7:=vv (qcI b8.o (by omega));clear a1;go_wp2_with fail
     refine a7.o.mono ?_;rintro e w1 ⟨A1,m1,c1,rfl,a2,a4,a5⟩;have H1:=vv (a0.o _ _ _ 1 _ a6.o a2 (a4.mono HB.o.size) (HB.o.trans (a5.mono HB.o.size)));clear a2 a4 a5;go_wp2;go_roundw
     case rel=>exact H1.o
     case measure=>exact HM.o
   all_goals
    first
     | (have c6:(1:Int)<((nth (toL P) 0:Nat):Int):=by omega)
     | (have c6:(1:Int)<(m:Int):=by omega)
    rcases a8 with ⟨a1,b4⟩|⟨a1,b4⟩
    ·have a6:=vv a1;clear a1;go_wp2_with fail
     refine b0.o.mono ?_;rintro e w1 ⟨A1,m1,c1,rfl,a2,a4,a5⟩;have H1:=vv (a0.o _ _ _ 0 _ a6.o (by rw[Nat.pow_zero,Nat.mul_one];exact a2) (a4.mono HB.o.size) (HB.o.trans (a5.mono HB.o.size)));clear a2 a4 a5;go_wp2;go_roundw
     case rel=>exact H1.o
     case measure=>exact HM.o
    ·have a6:=vv a1;clear a1;go_wp2_with fail
     refine b0.o.mono ?_;rintro e w1 ⟨A1,m1,c1,rfl,a2,a4,a5⟩;have d2:=vv (a4.mono HB.o.size);have b5:=vn HB a5;have a7:=vv (qcI a2 (HQ.o a2));clear a2 a4 a5;go_wp2_with fail
     refine a7.o.mono ?_;rintro e w2 ⟨A2,m2,c2,rfl,b9,c0,c3⟩;have H1:=vv (a0.o _ _ _ 1 _ a6.o b9 (c0.mono b5.o.size) (b5.o.trans (c3.mono b5.o.size)));clear b9 c0 c3;go_wp2;go_roundw
     case rel=>exact H1.o
     case measure=>exact HM.o
theorem q5k(l:List Nat)(k:Nat)(h:k<l.length):wv (l.take (k+1))=16*wv (l.take k)+nth l k:=by
 rw[List.take_succ_eq_append_getElem h,qaM];unfold nth;rw[List.getD_eq_getElem?_getD,List.getElem?_eq_getElem h];rfl
theorem row_rd{w:World}{base:Nat}{e:TypeId}{A:Option Addr}{n c:Nat}{L:List Nat}(h:w.ownsRow base e 1 (.slice A n c) n (q0p L))(hl:Lim L)(hn:n<=1099511627776):Rd w A n c L/\Fr base A:=by
 have a0:L.length=n:=by have:=h.1;simpa [q0p] using this
 rcases h.2 with ⟨h2,rfl⟩|⟨g,cap,cur,hv,hb,hg,hc,hm,hs,ht⟩
 ·cases h2
  exact⟨⟨a0,lr,hn,hl,fun h=>absurd h (by omega)⟩,Fr.none_ _⟩
 ·cases hv
  exact⟨⟨a0,hc,hn,hl,fun _=>⟨g,0,rfl,(Array.getElem?_eq_some_iff.1 hg).1,fun j hj=>by rw[Nat.zero_add];exact(q6E h hj).1⟩⟩,Fr.at_ hb⟩
def q99(l:List Nat)(n:Nat)(B:Nat)(w:World)(v t c i:Value)(wr:World):Prop:=
 ∃(k T C:Nat) (L:List Nat),i=.int .i64 (k:Int)/\k<=n/\t=.int .u32 (T:Int)/\c=.int .u32 (C:Int)/\1<=T/\(T<=1048576\/T=16777216)/\C<T/\(∃j,T=16^j)/\(k=n->T=1) /\
  wr.ownsRow B 34 1 v L.length (q0p L)/\Lim L/\val L*T+C=wv (l.take k)/\L.length<=k/\Below B w wr
theorem q7s{T j:Nat}(h:T=16^j)(hT:T<=1048576):16*T<=1048576\/16*T=16777216:=by
 subst h;have:j<=5:=by
  rcases Nat.lt_or_ge 5 j with h|h
  ·have:=Nat.pow_le_pow_right (n:=16) (by decide) h;have e:16^(5+1)=16777216:=by decide
   omega
  ·exact h
 rcases(by omega:j=0\/j=1\/j=2\/j=3\/j=4\/j=5) with rfl|rfl|rfl|rfl|rfl|rfl<;>decide
def q7h(N n:Nat)(w:World)(e:Ending)(w':World):Prop:=
 ∃A m c xs,e=.returned (.tuple #[.slice A m c,.bool true])/\Rd w' A m c xs/\val xs=N/\m<=n/\Fr w.heap.size A/\Below w.heap.size w w'
theorem q4p(s:ByteArray)(l:List Nat)(w:World)(h:Hexs s l)(hs:s.size<=300):
  Calls Tryz.prog 367 #[.string s,.int .i64 16] w (q7h (wv l) s.size w):=by
 have H:=vv h;have c6:(s.size:Int)<=300:=by omega
 have c7:decide ((300:Int)<(s.size:Int))=false:=decide_eq_false (by omega);have HL:=vv h.len;have H0:Hid (q99 l s.size w.heap.size w (.slice none 0 0) (.int .u32 1) (.int .u32 0) (.int .i64 0) w):=vv ⟨0,1,0,[],rfl,Nat.zero_le _,rfl,rfl,lr,.inl (by decide),by decide,⟨0,rfl⟩,fun _=>rfl,World.ownsRow_nil _ _ _ _,q0M,rfl,Nat.zero_le _,Below.refl _ _⟩;clear h hs;go_enter Tryz.func367,Tryz.ntmps367
 go_wp2;go_loopw [11,12,13,14] (fun v t c i wr=>q99 l s.size w.heap.size w v t c i wr) (fun _ _ _ i _=>s.size-(intOf i).toNat)
 case atStart=>exact H0.o
 case round =>
  clear H0;obtain⟨k,T,C,L,rfl,hk,rfl,rfl,c0,hT,hC,hj,a4,a5,a6,a7,a9,hB⟩:=hrel;have a0:=vv a5;have a1:=vv a6;have a2:=vv a7;have HB:=vv hB;have HJ:=vv hj;have b0:=vv a4;have c1:=hB.size;clear a5 a6 a7 hB hj a4;by_cases hks:k<s.size
  ·have hf:=H.o.at_ k hks;have a3:=H.o.small k;have b1:=q5k l k (by have:=HL.o;omega);obtain⟨d,hd⟩:=yx (nth l k);rw[show l.getD k 0=d from hd.symm] at hf a3;rw[<- hd] at b1;have HW:=vv fun w=>qd7 d w a3
   rw[<- hf] at HW;have b7:=vv b1;have c8:(d:Int)<=15:=by omega
   have c9:(T:Int)<=16777216:=by omega
   have c2:(1:Int)<=(T:Int):=by omega
   have d0:(C:Int)<(T:Int):=by omega
   have d1:(k:Int)<(s.size:Int):=by omega
   clear hf b1 hd a3;have b8:Hid (∀(v':Value) (L':List Nat) (w':World),w'.ownsRow w.heap.size 34 1 v' L'.length (q0p L')->Lim L'->val L'=val L*(16*T)+(16*C+d)->L'.length<=L.length+1->Below w.heap.size wr w'->q99 l s.size w.heap.size w v' (.int .u32 1) (.int .u32 0) (.int .i64 ((k:Int)+1)) w'):=vv fun v' L' w' h1 h2 h3 h4 h5 =>
    ⟨k+1,1,0,L',by go_num,by omega,rfl,rfl,lr,.inl (by decide),by decide,⟨0,rfl⟩,fun _=>rfl,h1,h2,by
     rw[b7.o,<- a2.o,h3,Nat.mul_add,Nat.mul_one,Nat.add_zero,Nat.mul_left_comm];omega,by omega,HB.o.trans h5⟩
   obtain⟨M,hM⟩:=yx (T*16);obtain⟨N,hN⟩:=yx (C*16+d);have b2:N<M:=by omega
   have b3:M<=268435456:=by omega
   have HM:=vv (q9M w.heap.size _ L M N wr a0.o a1.o (by omega) b2 (by omega) c1);have a8:Hid (∀(v':Value) (L':List Nat) (w':World),w'.ownsRow w.heap.size 34 1 v' L'.length (q0p L')->Lim L'->val L'=val L*M+N->L'.length<=L.length+1->Below w.heap.size wr w'->q99 l s.size w.heap.size w v' (.int .u32 1) (.int .u32 0) (.int .i64 ((k:Int)+1)) w'):=vv fun v' L' w' h1 h2 h3 h4 h5=>b8.o v' L' w' h1 h2 (by rw[h3,hM,hN,Nat.mul_comm T,Nat.mul_comm C]) h4 h5
   have d2:(T:Int)*16=(M:Int):=by omega
   have d3:(C:Int)*16+(d:Int)=(N:Int):=by omega
   have d4:(M:Int)<=268435456:=by omega
   have d5:(N:Int)<(M:Int):=by omega
   have b4:T=16777216/\M=268435456\/M<=16777216:=by omega
   have b5:Hid (M<=268435455->k+1<s.size->q99 l s.size w.heap.size w u11 (.int .u32 (M:Int)) (.int .u32 (N:Int)) (.int .i64 ((k:Int)+1)) wr):=vv fun h1 h2 =>
    ⟨k+1,M,N,L,by go_num,by omega,rfl,rfl,by omega,by
     obtain⟨j,hj⟩:=HJ.o;have:=q7s hj (by omega);omega,b2,by
     obtain⟨j,hj⟩:=HJ.o;exact⟨j+1,by rw[hM,hj,Nat.pow_succ]⟩,fun e=>by omega,a0.o,a1.o,by
     rw[b7.o,<- a2.o,hM,hN,Nat.mul_add,<- Nat.mul_assoc,Nat.mul_comm _ 16];omega,by omega,HB.o⟩
   clear hT c0 hM hN b2 b8;have c3:(268435455<M)\/(M<=268435455/\k+1=s.size)\/(M<=268435455/\k+1<s.size):=by omega
   rcases c3 with h|h|h
   ·have h1:(268435455:Int)<(M:Int):=by omega
    clear h b4 b3;go_wp2_with fail
    refine(HW.o _).mono ?_;rintro e w1 ⟨rfl,rfl⟩;go_wp2_with fail
    refine HM.o.mono ?_;rintro e w2 ⟨v',L',rfl,h1,h2,h3,h4,h5⟩;have HI:=vv (a8.o v' L' w2 h1 h2 h3 h4 h5);clear h1 h2 h3 h4 h5;go_wp2;go_roundw
    case rel=>exact HI.o
    case measure=>simp [intOf];omega
   ·have h1:(M:Int)<=268435455:=by omega
    have h2:((k:Int)==(s.size:Int)-1)=true:=by rw[beq_iff_eq];omega
    clear h b4 b3;go_wp2_with fail
    refine(HW.o _).mono ?_;rintro e w1 ⟨rfl,rfl⟩;go_wp2_with fail
    refine HM.o.mono ?_;rintro e w2 ⟨v',L',rfl,h1,h2,h3,h4,h5⟩;have HI:=vv (a8.o v' L' w2 h1 h2 h3 h4 h5);clear h1 h2 h3 h4 h5;go_wp2;go_roundw
    case rel=>exact HI.o
    case measure=>simp [intOf];omega
   ·have h1:(M:Int)<=268435455:=by omega
    have h2:((k:Int)==(s.size:Int)-1)=false:=by rw[beq_eq_false_iff_ne];omega
    have HI:=vv (b5.o h.1 h.2);clear h b4 b3;go_wp2_with fail
    refine(HW.o _).mono ?_;rintro e w1 ⟨rfl,rfl⟩;go_wp2;go_roundw
    case rel=>exact HI.o
    case measure=>simp [intOf];omega
  ·have c4:k=s.size:=by omega
   subst c4;have b6:=b0.o rfl;subst b6;have c5:C=0:=by omega
   subst c5;obtain⟨A,cap,rfl⟩:=q87 a0.o;have b9:=vv (row_rd a0.o a1.o (by omega));go_wp2;go_ret2
   exact⟨A,L.length,cap,L,rfl,b9.o.1,by
    have:=a2.o;rw[HL.o,List.take_length,Nat.mul_one,Nat.add_zero] at this;exact this,a9,b9.o.2,HB.o⟩
theorem Hexs.high{s:ByteArray}{l:List Nat}(h:Hexs s l){k:Nat}(hk:k<=s.size):Hexs (s.extract 0 k) (l.take k):=by
 have:=h.cut (t:=s.extract 0 k) (a:=0) (b:=k) (by rw[q9G,List.drop_zero,List.drop_zero])
 rwa [List.drop_zero] at this
theorem Hexs.low{s:ByteArray}{l:List Nat}(h:Hexs s l){k:Nat}(hk:k<=s.size):Hexs (s.extract k s.size) (l.drop k):=by
 have:=h.cut (t:=s.extract k s.size) (a:=k) (b:=s.size-k) (by
  rw[q9G,List.drop_take])
 rwa [List.take_of_length_le (by rw[List.length_drop,<- h.len];omega)] at this
theorem q6H(n:Nat):∀(s:ByteArray) (l:List Nat) (w:World),s.size<=n->Hexs s l->s.size<=131072 ->
  Calls Tryz.prog 367 #[.string s,.int .i64 16] w (q7h (wv l) s.size w):=by
 induction n with
 | zero=>intro s l w hn h hs;exact q4p s l w h (by omega)
 | succ n ih =>
  intro s l w hn h hs;rcases Nat.lt_or_ge 300 s.size with hb|hb
  ·obtain⟨k,hk⟩:=yx (s.size/2);obtain⟨c,hc⟩:=yx (s.size-k);have hh:=h.high (k:=c) (by omega);have hl:=h.low (k:=c) (by omega);obtain⟨X,hX⟩:=yx (s.extract 0 c);obtain⟨Y,hY⟩:=yx (s.extract c s.size);rw[<- hX] at hh;rw[<- hY] at hl;have a8:X.size=c:=by rw[hX,ByteArray.size_extract];omega
   have a9:Y.size=k:=by rw[hY,ByteArray.size_extract];omega
   have HX:=vv fun w=>ih X (l.take c) w (by omega) hh (by omega)
   have HY:=vv fun w=>ih Y (l.drop c) w (by omega) hl (by omega)
   have HP:=vv fun w=>q7q k w (by omega)
   have HV:Hid (wv (l.take c)*16^k+wv (l.drop c)=wv l):=vv (by
    have:=q3K (l.take c) (l.drop c);rw[List.take_append_drop,List.length_drop,<- h.len] at this;rw[this,show s.size-c=k by omega])
   have HW:Hid (wv l<4294967296^s.size):=vv (Nat.lt_of_lt_of_le (wv_lt h.mem) (by rw[h.len];exact Nat.pow_le_pow_left (by decide) _));rw[a8] at HX;rw[a9] at HY;have e1:s.extract 0 c=X:=hX.symm;have e2:s.extract c s.size=Y:=hY.symm;have d7:(s.size:Int)/2=(k:Int):=by omega
   have d8:(s.size:Int)-(k:Int)=(c:Int):=by omega
   have d9:(s.size:Int)<=131072:=by omega
   have e0:(k:Int)<=65536:=by omega
   have e3:(c:Int)<=(s.size:Int):=by omega
   have e4:(300:Int)<(s.size:Int):=by omega
   clear hX hY a8 a9 hh hl hk hc hn h ih;go_enter Tryz.func367,Tryz.ntmps367
   go_wp2_with fail
   refine(HX.o _).mono ?_;rintro e w1 ⟨A1,m1,c1,x1,rfl,b0,b1,e5,c0,b2⟩;have a0:=vv b0;have c6:=vv b1;have c7:=vv b2;clear b0 b1 c0 b2;go_wp2_with fail
   refine(HY.o _).mono ?_;rintro e w2 ⟨A2,m2,c2,x2,rfl,b3,b4,e6,c8,a3⟩;have a0:=vv (a0.o.below a3 rfl);have a1:=vv b3;have c9:=vv b4;have d0:=vn c7 a3;clear b3 b4 c8 a3;go_wp2_with fail
   refine(HP.o _).mono ?_;rintro e w3 ⟨A3,m3,c3,rfl,a4,d1,a2⟩;have e7:=q16 _ (by omega) a4;have a0:=vv (a0.o.below a2 rfl);have a1:=vv (a1.o.below a2 rfl);have b5:=vv a4;have d2:=vn d0 a2;have HM:=vv (q0I A1 A3 m1 m3 c1 c3 _ _ w3 a0.o b5.o (by omega));clear a4 d1 a2;go_wp2_with fail
   refine HM.o.mono ?_;rintro e w4 ⟨A4,m4,c4,rfl,a5,d3,a6⟩;have e8:m4<=m1+m3:=a5.bound (by rw[Nat.pow_add];exact Nat.mul_lt_mul'' a0.o.lt b5.o.lt);have a1:=vv (a1.o.below a6 rfl);have b6:=vn d2 a6;have d4:=vv (q1j A4 A2 m4 m2 c4 c2 _ _ w4 a5 a1.o (by omega) (by omega));clear a5 d3 a6;go_wp2_with fail
   refine d4.o.mono ?_;rintro e w5 ⟨A5,m5,c5,rfl,a7,b7,b8⟩;rw[q00,q00,c6.o,c9.o,HV.o] at a7;have b9:=vv a7;have d5:=vv (b7.mono b6.o.size);have d6:=vn b6 b8;clear a7 b7 b8;go_wp2;go_ret2
   exact⟨A5,m5,c5,_,rfl,b9.o,q00 _,b9.o.bound HW.o,d5.o,d6.o⟩
  ·exact q4p s l w h hb
theorem SetString(g o:Nat)(v:Int)(s:ByteArray)(l:List Nat)(w:World)(h:IntAt w g o v)(hh:Hexs s l)(h0:0<s.size)(hs:s.size<=131072):
  Calls Tryz.prog 343 #[.pointer (some ⟨g,o,none⟩),.string s,.int .i64 16] w fun e w'=>e=.returned (.tuple #[.pointer (some ⟨g,o,none⟩),.bool true])/\IntAt w' g o (wv l:Int)/\Fm g o w w':=by
 have HR:=vv fun w=>q6H s.size s l w lr hh hs
 have hf:=hh.at_ 0 h0;have a0:=hh.small 0;obtain⟨c,hc⟩:=yx ((s[0]).toNat);have a1:c≠45/\c≠43:=by
  rw[hc,hf];unfold fig;split<;>omega
 have t1:((c:Int)==45)=false:=by rw[beq_eq_false_iff_ne];omega
 have t2:((c:Int)==43)=false:=by rw[beq_eq_false_iff_ne];omega
 have a3:(s[0]).toNat=c:=hc.symm;have a4:(1:Int)<=(s.size:Int):=by omega
 have a5:(s.size:Int)<=131072:=by omega
 have a6:((0:Int)==(s.size:Int))=false:=by rw[beq_eq_false_iff_ne];omega
 have hx:s.extract 0 s.size=s:=ByteArray.extract_zero_size;have HI:=vv h;clear h hh hf a0 hc a1;go_enter Tryz.func343,Tryz.ntmps343
 go_wp2_with fail
 refine(HR.o _).mono ?_;rintro e w1 ⟨A,m,c',xs,rfl,hR,hv,hm,hF,hB⟩;have HB:=vv hB;have HS:=vv (qaV g o v (wv l:Int) false A m c' xs w1 (HI.o.below hB) hR (fun a e=>(hF a e).2) (by rw[Int.natAbs_natCast,hv]) (by rw[decide_eq_false (by omega)];rfl));clear hR hv hm hF hB;go_wp2_with fail
 refine HS.o.mono ?_;rintro e w2 ⟨rfl,hI,a2⟩;go_wp2;go_ret2
 exact⟨rfl,hI,(Fm.of_below HB.o HI.o.lt).trans a2⟩
theorem SetString_nil(g o:Nat)(w:World):
  Calls Tryz.prog 343 #[.pointer (some ⟨g,o,none⟩),.string ⟨#[]⟩,.int .i64 16] w fun e w'=>e=.returned (.tuple #[.pointer none,.bool false])/\w=w':=by
 go_enter Tryz.func343,Tryz.ntmps343
 go_wp2;go_ret2
 exact⟨rfl,rfl⟩
end Go.Proofs.YtppgcnhlpnmieaaGreatDoor.A
namespace Go.Proofs.YtppgcnhlpnmieaaGreatDoor.Nat_
open Go Go.RowKit R5
end Go.Proofs.YtppgcnhlpnmieaaGreatDoor.Nat_
