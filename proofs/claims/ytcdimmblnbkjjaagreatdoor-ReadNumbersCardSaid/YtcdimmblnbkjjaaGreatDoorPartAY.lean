/- Lemmas. -/
import Derived.Test.YtcdimmblnbkjjaaGreatDoorPartAX
import Derived.Laws.IdiomStrings
set_option linter.all false
set_option maxRecDepth 100000
namespace Go.Proofs.YtcdimmblnbkjjaaGreatDoor
open Go Go.RowKit
theorem q7a(U:List Nat)(i x:Nat):q0p (U.set i x)=(q0p U).set i (.int .u32 (x:Int)):=by
 unfold q0p;rw[List.map_set]
theorem q83{w:World}{base:Nat}{e:TypeId}{g n cap:Nat}{U:List Nat}(h:w.ownsRow base e 1 (.slice (some ⟨g,0,none⟩) n cap) n (q0p U))(i x:Nat):
  (w.setCell ⟨g,i,none⟩ (.int .u32 (x:Int))).ownsRow base e 1 (.slice (some ⟨g,0,none⟩) n cap) n (q0p (U.set i x)):=by
 obtain⟨h1,h2⟩:=h;rcases h2 with ⟨h,_⟩|⟨g',cap',cur,hv,hb,hg,hc,hm,hs,ht⟩
 ·cases h
 ·cases hv
  refine⟨by simpa [q0p] using h1,.inr ⟨g,cap,cur.setIfInBounds i (.int .u32 (x:Int)),rfl,hb,?_,hc,hm,by simpa using hs,?_⟩⟩
  ·simp [World.setCell,Array.getElem?_modify,hg]
  ·rw[q7a,<- ht];rw[Array.toList_setIfInBounds,List.take_set]
theorem q5m{w:World}{base:Nat}{e:TypeId}{g n cap:Nat}{U:List Nat}(h:w.ownsRow base e 1 (.slice (some ⟨g,0,none⟩) n cap) n (q0p U)){i:Nat}(hi:i<n):
  w.cell? ⟨g,i,none⟩=some (.int .u32 ((nth U i:Nat):Int))/\w.frozen? ⟨g,i,none⟩=false/\base<=g/\g<w.heap.size:=by
 have a0:U.length=n:=by have:=h.1;simpa [q0p] using this
 rcases h.2 with ⟨h,_⟩|⟨g',cap',cur,hv,hb,hg,hc,hm,hs,ht⟩
 ·cases h
 ·cases hv
  refine⟨?_,by simp [World.frozen?,hg],hb,(Array.getElem?_eq_some_iff.1 hg).1⟩;have e1:=q29 U (i:=i) (by omega);rw[<- ht,Nat.mul_one,List.getElem?_take,if_pos hi] at e1;simp only[World.cell?,hg];rw[<- e1];simp
theorem q4t{w:World}{base:Nat}{e:TypeId}{v:Value}{n:Nat}{U:List Nat}(h:w.ownsRow base e 1 v n (q0p U))(hn:0<n):∃g cap,v=.slice (some ⟨g,0,none⟩) n cap/\base<=g:=by
 rcases h.2 with ⟨_,h0⟩|⟨g,cap,cur,hv,hb,_⟩
 ·omega
 ·exact⟨g,cap,hv,hb⟩
theorem q84{w:World}{base:Nat}{e:TypeId}{v:Value}{n:Nat}{U:List Nat}(h:w.ownsRow base e 1 v n (q0p U)):∃A cap,v=.slice A n cap:=by
 rcases h.2 with ⟨h2,rfl⟩|⟨g,cap,cur,hv,_⟩
 ·exact⟨none,0,h2⟩
 ·exact⟨_,_,hv⟩
theorem q6o{w w':World}{base B:Nat}{e:TypeId}{v:Value}{n:Nat}{U:List Nat}(h:w.ownsRow base e 1 v n (q0p U))(hb:Below B w w')(hB:B=w.heap.size):w'.ownsRow base e 1 v n (q0p U):=by
 refine⟨h.1,?_⟩;rcases h.2 with h2|⟨g,cap,cur,hv,a0,hg,hc,hm,hs,ht⟩
 ·exact .inl h2
 ·exact .inr ⟨g,cap,cur,hv,a0,(hb.block g (by rw[hB];exact(Array.getElem?_eq_some_iff.1 hg).1)).trans hg,hc,hm,hs,ht⟩
theorem q5W(w:World)(s:ByteArray)(cap:Nat)(t:TypeId)(m:Nat × Nat)(k:Nat)(hk:k<s.size):
  (w.alloc (.cells (bytesRow s cap) t m)).cell? ⟨w.heap.size,k,none⟩=some (.int .u8 ((s[k].toNat:Nat):Int)):=by
 simp only[World.cell?];rw[heap_alloc_new];have h:=bytesRow_at s cap k hk;simp only[Nat.zero_add];exact h
def mS(U:List Nat)(P y0 k:Nat):Nat:=val (U.take k)*P+y0
theorem q6B(U:List Nat)(P y0:Nat):mS U P y0 0=y0:=by simp [mS,val]
theorem q6C(U:List Nat)(P y0 k:Nat):mS U P y0 (k+1)=mS U P y0 k+4294967296^k*(nth U k*P):=by
 unfold mS;rw[q06,Nat.add_mul,Nat.mul_assoc];omega
theorem q5t(U:List Nat)(P y0 k:Nat):mS U P y0 k/4294967296^k+nth U k*P=mS U P y0 (k+1)/4294967296^k:=by
 rw[q6C,Nat.add_mul_div_left _ _ (Nat.pow_pos (by omega))]
theorem q8U(U:List Nat)(P y0 k:Nat):mS U P y0 (k+1)%4294967296^k=mS U P y0 k%4294967296^k:=by
 rw[q6C,Nat.add_mul_mod_self_left]
theorem q8a(U:List Nat)(P y0 k:Nat):mS U P y0 (k+1)%4294967296^(k+1)=mS U P y0 k%4294967296^k+4294967296^k*(mS U P y0 (k+1)/4294967296^k%4294967296):=by
 rw[Nat.pow_succ,Nat.mod_mul,q8U]
theorem q7R(U:List Nat)(P y0 k:Nat):mS U P y0 (k+1)/4294967296^k/4294967296=mS U P y0 (k+1)/4294967296^(k+1):=by
 rw[Nat.pow_succ,Nat.div_div_eq_div_mul]
theorem q5s(U:List Nat)(hl:Lim U){P y0:Nat}(hy:y0<P):∀k,mS U P y0 k/4294967296^k<P
 | 0=>by rw[q6B];simpa using hy
 | k+1=>by
  have h1:=q5s U hl hy k;have h2:=q5t U P y0 k;have h3:nth U k<4294967296:=q2f hl k;rw[<- q7R,<- h2];apply Nat.div_lt_of_lt_mul
  have h4:nth U k*P<=4294967295*P:=Nat.mul_le_mul_right _ (by omega);omega
theorem q7S(U:List Nat)(P y0:Nat):mS U P y0 U.length=val U*P+y0:=by unfold mS;rw[List.take_length]
structure MulAt(U L:List Nat)(P y0 k:Nat):Prop where
 len:L.length=U.length
 lim:Lim L
 low:val (L.take k)=mS U P y0 k%4294967296^k
 high:∀j,k<=j->nth L j=nth U j
theorem MulAt.start{U:List Nat}(hl:Lim U)(P y0:Nat):MulAt U U P y0 0:=⟨rfl,hl,by simp [val,Nat.mod_one],fun _ _=>rfl⟩
theorem MulAt.step{U L:List Nat}{P y0 k:Nat}(h:MulAt U L P y0 k)(hk:k<U.length):MulAt U (L.set k (mS U P y0 (k+1)/4294967296^k%4294967296)) P y0 (k+1):=by
 refine⟨by rw[List.length_set];exact h.len,q6Z h.lim k (Nat.mod_lt _ (by omega)),?_,fun j hj=>?_⟩
 ·rw[q0g _ _ _ (by rw[h.len];exact hk),h.low,q8a]
 ·rw[q0e _ _ (by omega)];exact h.high j (by omega)
theorem MulAt.fin{U L:List Nat}{P y0:Nat}(h:MulAt U L P y0 U.length):val L=(val U*P+y0)%4294967296^U.length:=by
 have:=h.low;rw[<- h.len,List.take_length,h.len,q7S] at this;exact this
theorem q2C(t:ByteArray):t.data.toList.length=t.size:=Array.length_toList
theorem q8P(t:ByteArray)(a b:Nat):(t.extract a b).data.toList=(t.data.toList.take b).drop a:=by
 rw[ByteArray.data_extract,Array.toList_extract,List.extract_eq_drop_take']
theorem NatCell.set{w:World}{g b o:Nat}{v:Value}(h:NatCell w g)(hb:b≠g):NatCell (w.setCell ⟨b,o,none⟩ v) g:=
 ⟨(q0t (fun e=>hb (congrArg Addr.block e))).trans h.c0,by rw[<- h.fz];exact World.frozen?_of_block (Go.Deep.blk_setCell_other _ _ _ _ (fun e=>hb e.symm)),by rw[Go.Deep.nblk_setCell];exact h.lt⟩
theorem q5V(w:World)(s:ByteArray):
  ∃cap w1,(convert 9 85 (.string s)).run Tryz.prog w=.ok (.slice (some ⟨w.heap.size,0,none⟩) s.size cap) w1/\(∀k (h:k<s.size),w1.cell? ⟨w.heap.size,k,none⟩=some (.int .u8 ((s[k].toNat:Nat):Int)))/\Below w.heap.size w w1/\w1.heap.size=w.heap.size+1:=by
 refine⟨_,_,run_bytes_of_string w 9 85 5 s Tryz.underlying9 Tryz.underlying85 Tryz.underlying5,fun k h=>q5W w.drew s _ _ _ k h,?_,by simp⟩;exact(q04 (Below.refl w.heap.size w)).alloc lr _
end Go.Proofs.YtcdimmblnbkjjaaGreatDoor
namespace Go.Proofs.YtcdimmblnbkjjaaGreatDoor.Nat_
open Go Go.RowKit R5
set_option maxHeartbeats 4000000 in
theorem Parse(s:ByteArray)(w:World)(hd:q61 s)(h0:0<s.size)(h1:s.size<=65536):
  Calls Tryz.prog 48 #[.string s] w fun e w'=>∃A n,e=.returned (.tuple #[q4w A n n,.int .i64 0,.int .i64 0])/\Rd w' A n n (toL (dvk s s.size))/\Fr w.heap.size A/\Below w.heap.size w w':=by
 have HD:=vv hd;obtain⟨i0,hi,g9,i1,i2⟩:=info_parts Go.Proofs.YtcdimmblnbkjjaaGreatDoor.B.inf;have k5:(s.size:Int)<=65536:=by omega
 have H1:=vv h1;have d1:decide ((65536:Int)<(s.size:Int))=false:=decide_eq_false (by omega);have i3:=q2W h0;clear hd h1;go_enter Tryz.func48,Tryz.ntmps48
 go_wp2;go_loop [19] (fun t=>∃k:Nat,k<=s.size/\t=.int .i64 k) (fun t=>s.size-(intOf t).toNat)
 case atStart=>exact⟨0,Nat.zero_le _,rfl⟩
 case round =>
  obtain⟨k,hk,rfl⟩:=hrel;by_cases hks:k<s.size
  ·obtain⟨d1,d2⟩:=HD.o k hks;go_wp2;go_round
   case rel=>exact⟨k+1,by omega,by go_num⟩
   case measure=>simp [intOf];omega
  ·have d6:k=s.size:=by omega
   subst d6;clear hk hks;go_wp2;clear d1 i3;go_loopw [0,6] (fun v l wr=>∃(i:Nat) (t:ByteArray) (U:List Nat),i<=s.size/\v=.string t/\t.data.toList=s.data.toList.drop i/\wr.ownsRow (w.heap.size+1) 34 1 l U.length (q0p U)/\Lim U/\val U=dvk s i/\U.length<=i/\NatCell wr w.heap.size/\Below w.heap.size w wr) (fun v _ _=>match v with|.string t=>t.size|_=>0)
   case atStart=>exact⟨0,s,[],Nat.zero_le _,rfl,rfl,World.ownsRow_nil _ _ _ _,q0K,rfl,lr,NatCell.made _ _,(Below.refl _ _).alloc lr _⟩
   case round =>
    obtain⟨i,t,U,k6,rfl,ht,a2,b7,hU,k7,a5,hB⟩:=hrel;have d7:t.size=s.size-i:=by rw[<- q2C,ht,List.length_drop,q2C]
    obtain⟨A,cap,rfl⟩:=q84 a2;have b8:=vv a2;have a6:=vv b7;have HU:=vv hU;have f4:=vv a5;have HB:=vv hB;have f5:=vv ht;have k8:(t.size:Int)<=65536:=by omega
    have k9:(U.length:Int)<=65536:=by omega
    have nl:=a5.lt;have l0:=vv d7;clear a2 b7 hU a5 hB ht;by_cases hgo:0<t.size
    ·obtain⟨j,hj⟩:=yx (min 9 t.size);have i4:j<=9:=by omega
     have l1:0<j:=by omega
     have l2:j<=t.size:=by omega
     have i5:min (9:Int) (t.size:Int)=(j:Int):=by omega
     have i6:min j t.size=j:=by omega
     obtain⟨C,hC⟩:∃C,t.extract 0 j=C:=⟨_,rfl⟩;obtain⟨T,hT⟩:∃T,t.extract j t.size=T:=⟨_,rfl⟩;have d8:C.data.toList=t.data.toList.take j:=by rw[<- hC,q8P,List.drop_zero]
     have d9:T.data.toList=s.data.toList.drop (i+j):=by
      rw[<- hT,q8P,List.take_of_length_le (by rw[q2C];exact lr),f5.o,List.drop_drop]
     have e0:C.size=j:=by rw[<- q2C,d8,List.length_take,q2C];omega
     have f6:T.size=t.size-j:=by rw[<- q2C,d9,List.length_drop,q2C];omega
     have f7:∀k (h:k<C.size),∃c:Nat,C[k].toNat=c/\48<=c/\c<=57/\dvm s i (k+1)=10*dvm s i k+(c-48):=by
      intro k h;have e2:i+k<s.size:=by omega
      have e1:C[k]=s[i+k]:=by
       have a1:C.data.toList[k]?=s.data.toList[i+k]?:=by
        rw[d8,List.getElem?_take,if_pos (by omega),f5.o,List.getElem?_drop]
       rw[List.getElem?_eq_getElem (by rw[q2C];exact h),List.getElem?_eq_getElem (by rw[q2C];exact e2)] at a1;exact Option.some.inj a1
      obtain⟨a,b⟩:=HD.o (i+k) e2;exact⟨_,rfl,by rw[e1];exact a,by rw[e1];exact b,by rw[e1];exact q4a s i k e2⟩
     have i7:=vv f7;have f8:=vv d9;have i8:=vv f6;obtain⟨cap2,w1,kc,a3,d0,i9⟩:=q5V wr C
     rw[e0] at kc;have b0:=vv a3;have f9:=vv e0;have b9:=vv (q6o b8.o d0 rfl);have e3:=vv (f4.o.below d0);have e4:=vn HB d0;have l3:wr.heap.size<w1.heap.size:=by omega
     have g0:i+j<=s.size:=by omega
     have c3:=vv g0;clear d8 d9 f6 f7 a3 d0 i9 hj g0 d7;have l4:(j:Int)<=9:=by omega
     go_wp2;clear i5 i6 hC hT kc e0;go_loop [8,9,53] (fun a b t=>∃k:Nat,k<=j/\a=.int .u64 (dvm s i k:Nat)/\b=.int .u64 (tn k:Nat)/\t=.int .i64 k) (fun _ _ t=>j-(intOf t).toNat)
     case atStart=>exact⟨0,Nat.zero_le _,rfl,rfl,rfl⟩
     case round =>
      obtain⟨k,hk,rfl,rfl,rfl⟩:=hrel;by_cases hkj:k<j
      ·obtain⟨c,hc,c1,c2,hS⟩:=i7.o k (by rw[f9.o];exact hkj);have a4:=b0.o k (by rw[f9.o];exact hkj);rw[hc] at a4;have m1:=q4G s HD.o i k (by have:=c3.o;omega);have m2:=q3X (j:=k) (by omega);have m3:((dvm s i k:Nat):Int)<=1000000000:=by omega
       have m4:((tn k:Nat):Int)<=1000000000:=by unfold tn;omega
       have HS:=vv hS;have j0:=vv (q6f k);clear m1 m2 hc hS;go_wp2;go_round
       case rel=>exact⟨k+1,by omega,congrArg _ (by rw[HS.o];omega),congrArg _ (by rw[j0.o];omega),by go_num⟩
       case measure=>simp [intOf];omega
      ·have e5:k=j:=by omega
       subst e5;clear hk hkj;have b4:dvm s i k<tn k:=by have:=q4G s HD.o i k c3.o;exact this
       have j1:((tn k:Nat):Int)<=1000000000:=by have:=q3X i4;unfold tn;omega
       obtain⟨P,hP⟩:=yx (tn k);obtain⟨y0,hy⟩:=yx (dvm s i k);rw[<- hP] at j1 b4 ⊢;rw[<- hy] at b4 ⊢;have j2:=vv (q5s U a6.o b4);have HP:=vv hP;have HY:=vv hy;have e6:=vv (q58 s i k c3.o);clear hP hy b4;go_wp2;go_loopw [8,68] (fun y t wq=>∃(q:Nat) (L:List Nat),t=.int .i64 q/\q<=U.length/\y=.int .u64 (mS U P y0 q/4294967296^q:Nat)/\MulAt U L P y0 q/\wq.ownsRow (w.heap.size+1) 34 1 (.slice A U.length cap) U.length (q0p L)/\NatCell wq w.heap.size/\Below w.heap.size w wq) (fun _ t _=>U.length-(intOf t).toNat)
       case atStart=>exact⟨0,U,rfl,Nat.zero_le _,by rw[q6B,Nat.pow_zero,Nat.div_one],MulAt.start a6.o P y0,b9.o,e3.o,e4.o⟩
       case round =>
        obtain⟨q,L,rfl,hq,rfl,hM,a2,a5,hB⟩:=hrel;have HM:=vv hM;have e7:=vv a2;have e8:=vv a5;have d3:=vv hB;have c4:=j2.o q;by_cases hqn:q<U.length
        ·obtain⟨g,cap',e,d4⟩:=q4t a2 (by omega);cases e
         obtain⟨r1,r2,r3,r4⟩:=q5m a2 hqn;rw[hM.high q lr] at r1;have c5:nth U q<4294967296:=q2f a6.o q;have hc:=q5t U P y0 q;obtain⟨Z,hZ⟩:=yx (mS U P y0 (q+1)/4294967296^q);obtain⟨y,b5⟩:=yx (mS U P y0 q/4294967296^q);obtain⟨v,hv⟩:=yx (nth U q);obtain⟨M,d5⟩:=yx (v*P);rw[<- hZ,<- b5,<- hv,<- d5] at hc;rw[<- hv] at r1 c5;rw[<- b5] at c4 ⊢;have g1:(v:Int)*(P:Int)=(M:Int):=by rw[d5,Int.natCast_mul]
         have j3:(y:Int)+(M:Int)=(Z:Int):=by omega
         have l5:(M:Int)<=4294967295000000000:=by
          have b1:v*P<=4294967295*1000000000:=Nat.mul_le_mul (by omega) (by omega);rw[<- d5] at b1;omega
         have l6:(v:Int)<=4294967295:=by omega
         have j4:(y:Int)<=1000000000:=by omega
         have l7:(Z:Int)<=4294967296000000000:=by omega
         have c6:=vv (hM.step hqn);have HZ:=vv hZ;have j5:Hid ((wr.setCell ⟨g,q,none⟩ (.int .u32 ((Z:Int)%4294967296))).ownsRow (w.heap.size+1) 34 1 (.slice (some ⟨g,0,none⟩) U.length cap) U.length (q0p (L.set q (Z%4294967296)))):=vv (by
          have:=q83 a2 q (Z%4294967296);rw[Int.natCast_emod] at this;exact this)
         have j6:=vv (a5.set (b:=g) (o:=q) (v:=.int .u32 ((Z:Int)%4294967296)) (by omega));have j7:=vv (hB.setCell (p:=⟨g,q,none⟩) (show w.heap.size<=g by omega) (.int .u32 ((Z:Int)%4294967296)));have l8:(q:Int)<(U.length:Int):=by omega
         clear hM a2 a5 hB c4 c5 hc hZ b5 hv d5;go_wp2;go_roundw
         case rel =>
          refine⟨q+1,L.set q (Z%4294967296),by go_num,by omega,congrArg _ ?_,?_,j5.o,j6.o,j7.o⟩
          ·rw[<- q7R,<- HZ.o];omega
          ·rw[HZ.o];exact c6.o
         case measure=>simp [intOf];omega
        ·have j8:q=U.length:=by omega
         subst j8;obtain⟨S,hS⟩:=yx (dvk s (i+k));have b2:=HM.o.fin;have b3:=q7S U P y0;have eS:val U*P+y0=S:=by rw[hS,e6.o,HU.o,HP.o,HY.o];rfl
         rw[eS] at b2 b3;rw[b3] at c4 ⊢;have g2:=HM.o.len;have c7:=vv g2;have a7:=vv (Nat.div_add_mod S (4294967296^U.length));obtain⟨y,b5⟩:=yx (S/4294967296^U.length);rw[<- b5] at c4 a7 ⊢;rw[<- b2] at a7;have g3:=vv HM.o.lim;have HS:=vv hS;have j4:(y:Int)<=1000000000:=by omega
         clear b3 b2 eS b5 hS c4 g2;have c8:=vv (show T.size<t.size by rw[i8.o];omega);by_cases b4:0<y
         ·have l9:=vv (show U.length<=65536 by omega);clear hM a2 a5 hB;go_wp2_with (at_builtin;refine wpList_append_own _ rfl _ _ 26 rfl (w.heap.size+1) 34 i0 (.int .u32 0) 1 4 Tryz.underlying26 hi g9 i1 i2 rfl (by decide) _ U.length (q0p L) rfl (e7.o.alloc _) ⟨wr.heap.size,0,none⟩ 1 1 [.int .u32 (y:Int)] rfl rfl (cell_one_new _ _ _) (by simp [Value.oneCell']) (by unfold maxLen;omega) (by omega) (by have:=d3.o.size;simp;omega) ?_)
          intro v' w5 a8 a0 _;have a9:w5.ownsRow (w.heap.size+1) 34 1 v' (U.length+1) (q0p (L++[y])):=by
           have e:q0p (L++[y])=q0p L++[.int .u32 (y:Int)]:=by simp [q0p]
           rw[e];exact a8
          have d4:=e7.o.lt;have g4:Below w.heap.size w w5:=by
           have b6:Below w.heap.size w (wr.alloc (.cells #[.int .u32 (y:Int)] 34)):=d3.o.alloc d3.o.size _;exact⟨a0.os.trans b6.os,a0.tape.trans b6.tape,a0.output.trans b6.output,Nat.le_trans b6.size a0.size,fun i hi=>(a0.block i (Nat.lt_of_lt_of_le hi b6.size) (fun e=>by have:=(d4 i e.symm).1;omega)).trans (b6.block i hi)⟩
          have g5:NatCell w5 w.heap.size:=by
           have h0:=e8.o.lt;have h1:NatCell (wr.alloc (.cells #[.int .u32 (y:Int)] 34)) w.heap.size:=e8.o.below ((Below.refl wr.heap.size wr).alloc lr _);have e:=a0.block w.heap.size h1.lt (fun e=>by have:=(d4 _ e.symm).1;omega);exact⟨(World.cell?_of_block e).trans h1.c0,(World.frozen?_of_block e).trans h1.fz,Nat.lt_of_lt_of_le h1.lt a0.size⟩
          have j9:=vv a9;have e4:=vv g4;have k0:=vv g5;clear a8 a0 a9 g4 g5 d4;go_wp2;go_roundw
          case rel =>
           refine⟨i+k,T,L++[y],c3.o,rfl,f8.o,?_,q19.2 ⟨g3.o,q0w.2 ⟨by omega,q0K⟩⟩,?_,?_,k0.o,e4.o⟩
           ·rw[List.length_append,c7.o];exact j9.o
           ·rw[q27,c7.o,Nat.add_comm,<- HS.o];exact a7.o
           ·rw[List.length_append,c7.o];show U.length+1<=i+k;omega
          case measure=>exact c8.o
         ·have k1:y=0:=by omega
          subst k1;clear b4 hM a2 a5 hB;go_wp2;go_roundw
          case rel =>
           refine⟨i+k,T,L,c3.o,rfl,f8.o,by rw[c7.o];exact e7.o,g3.o,?_,by rw[c7.o];omega,e8.o,d3.o⟩;have:=a7.o;rw[Nat.mul_zero,Nat.zero_add] at this;rw[this];exact HS.o
          case measure=>exact c8.o
    ·have k2:i=s.size:=by omega
     subst k2;clear d7;obtain⟨A',c',e,g6,g7⟩:=q3c b8.o a6.o (by omega);cases e
     have k3:wr.heap.size=wr.heap.size:=rfl;go_wp2_with fail
     refine(q6d A U.length cap U _ g6).mono ?_;rintro e w2 ⟨A2,n2,rfl,e9,g8,f0⟩;rw[HU.o] at e9;have c9:Hid (Fr (w.heap.size+1) A2):=vv (fun a e=>g7 a (g8 a e));have f1:=vv (f4.o.below f0);have k4:=vn HB f0;have c0:=f1.o.c0;have fz:=f1.o.fz;have lt:=f1.o.lt;have f2:Hid (Rd (w2.setCell ⟨w.heap.size,0,none⟩ (.slice A2 n2 n2)) A2 n2 n2 (toL (dvk s s.size))):=vv (e9.other _ _ _ (fun a e=>by have:=(c9.o a e).1;omega));have f3:=vv (k4.o.setCell (p:=⟨w.heap.size,0,none⟩) lr (.slice A2 n2 n2));have a4:(w2.setCell ⟨w.heap.size,0,none⟩ (.slice A2 n2 n2)).cell? ⟨w.heap.size,0,none⟩=some (.slice A2 n2 n2):=q0G c0;clear f0 e9 g8 g6 g7 k3;go_wp2;exact bodyPost_ret (v:=.tuple #[q4w A2 n2 n2,.int .i64 0,.int .i64 0]) (by simp [results,Tryz.results48,go_sem,a4]) rfl ⟨A2,n2,rfl,f2.o,c9.o.mono (by omega),f3.o⟩
end Go.Proofs.YtcdimmblnbkjjaaGreatDoor.Nat_
