/- Lemmas. -/
import Derived.Test.YtcdimmblnbkjjaaGreatDoorPartAW
import Derived.Laws.IdiomStrings
import Derived.Test.YtcdimmblnbkjjaaGreatDoorPartAV
import Derived.Test.YtcdimmblnbkjjaaGreatDoorPartAL
import Derived.Test.YtcdimmblnbkjjaaGreatDoorPartAJ
import Derived.Test.YtcdimmblnbkjjaaGreatDoorPartAK
import Derived.Test.YtcdimmblnbkjjaaGreatDoorPartAU
import Derived.Test.YtcdimmblnbkjjaaGreatDoorPartAO
set_option linter.all false
set_option maxHeartbeats 4000000
set_option maxRecDepth 100000
namespace Go.Proofs.YtcdimmblnbkjjaaGreatDoor
open Go Go.RowKit
theorem q7P(U:List Nat)(i x:Nat):q0w (U.set i x)=(q0w U).set i (.int .u32 (x:Int)):=by
 unfold q0w;rw[List.map_set]
theorem q6G{w:World}{base:Nat}{e:TypeId}{g n cap:Nat}{U:List Nat}(h:w.ownsRow base e 1 (.slice (some ⟨g,0,none⟩) n cap) n (q0w U))(i x:Nat):
  (w.setCell ⟨g,i,none⟩ (.int .u32 (x:Int))).ownsRow base e 1 (.slice (some ⟨g,0,none⟩) n cap) n (q0w (U.set i x)):=by
 obtain⟨h1,h2⟩:=h;rcases h2 with ⟨h,_⟩|⟨g',cap',cur,hv,hb,hg,hc,hm,hs,ht⟩
 ·cases h
 ·cases hv
  refine⟨by simpa [q0w] using h1,.inr ⟨g,cap,cur.setIfInBounds i (.int .u32 (x:Int)),rfl,hb,?_,hc,hm,by simpa using hs,?_⟩⟩
  ·simp [World.setCell,Array.getElem?_modify,hg]
  ·rw[q7P,<- ht];rw[Array.toList_setIfInBounds,List.take_set]
theorem q3V{w:World}{base:Nat}{e:TypeId}{g n cap:Nat}{U:List Nat}(h:w.ownsRow base e 1 (.slice (some ⟨g,0,none⟩) n cap) n (q0w U)){i:Nat}(hi:i<n):
  w.cell? ⟨g,i,none⟩=some (.int .u32 ((nth U i:Nat):Int))/\w.frozen? ⟨g,i,none⟩=false/\base<=g/\g<w.heap.size:=by
 have a0:U.length=n:=by have:=h.1;simpa [q0w] using this
 rcases h.2 with ⟨h,_⟩|⟨g',cap',cur,hv,hb,hg,hc,hm,hs,ht⟩
 ·cases h
 ·cases hv
  refine⟨?_,by simp [World.frozen?,hg],hb,(Array.getElem?_eq_some_iff.1 hg).1⟩;have e1:=q2i U (i:=i) (by omega);rw[<- ht,Nat.mul_one,List.getElem?_take,if_pos hi] at e1;simp only[World.cell?,hg];rw[<- e1];simp
theorem q4m{w:World}{base:Nat}{e:TypeId}{v:Value}{n:Nat}{U:List Nat}(h:w.ownsRow base e 1 v n (q0w U))(hn:0<n):∃g cap,v=.slice (some ⟨g,0,none⟩) n cap/\base<=g:=by
 rcases h.2 with ⟨_,h0⟩|⟨g,cap,cur,hv,hb,_⟩
 ·omega
 ·exact⟨g,cap,hv,hb⟩
theorem q4T{w:World}{base:Nat}{e:TypeId}{v:Value}{n:Nat}{U:List Nat}(h:w.ownsRow base e 1 v n (q0w U)):∃A cap,v=.slice A n cap:=by
 rcases h.2 with ⟨h2,rfl⟩|⟨g,cap,cur,hv,_⟩
 ·exact⟨none,0,h2⟩
 ·exact⟨_,_,hv⟩
theorem q6I{w w':World}{base B:Nat}{e:TypeId}{v:Value}{n:Nat}{U:List Nat}(h:w.ownsRow base e 1 v n (q0w U))(hb:Below B w w')(hB:B=w.heap.size):w'.ownsRow base e 1 v n (q0w U):=by
 refine⟨h.1,?_⟩;rcases h.2 with h2|⟨g,cap,cur,hv,a0,hg,hc,hm,hs,ht⟩
 ·exact .inl h2
 ·exact .inr ⟨g,cap,cur,hv,a0,(hb.block g (by rw[hB];exact(Array.getElem?_eq_some_iff.1 hg).1)).trans hg,hc,hm,hs,ht⟩
theorem q6c(w:World)(s:ByteArray)(cap:Nat)(t:TypeId)(m:Nat × Nat)(k:Nat)(hk:k<s.size):
  (w.alloc (.cells (bytesRow s cap) t m)).cell? ⟨w.heap.size,k,none⟩=some (.int .u8 ((s[k].toNat:Nat):Int)):=by
 simp only[World.cell?];rw[heap_alloc_new];have h:=bytesRow_at s cap k hk;simp only[Nat.zero_add];exact h
def mS(U:List Nat)(P y0 k:Nat):Nat:=val (U.take k)*P+y0
theorem q4Z(U:List Nat)(P y0:Nat):mS U P y0 0=y0:=by simp [mS,val]
theorem q72(U:List Nat)(P y0 k:Nat):mS U P y0 (k+1)=mS U P y0 k+4294967296^k*(nth U k*P):=by
 unfold mS;rw[q09,Nat.add_mul,Nat.mul_assoc];omega
theorem q40(U:List Nat)(P y0 k:Nat):mS U P y0 k/4294967296^k+nth U k*P=mS U P y0 (k+1)/4294967296^k:=by
 rw[q72,Nat.add_mul_div_left _ _ (Nat.pow_pos (by omega))]
theorem qaV(U:List Nat)(P y0 k:Nat):mS U P y0 (k+1)%4294967296^k=mS U P y0 k%4294967296^k:=by
 rw[q72,Nat.add_mul_mod_self_left]
theorem q9L(U:List Nat)(P y0 k:Nat):mS U P y0 (k+1)%4294967296^(k+1)=mS U P y0 k%4294967296^k+4294967296^k*(mS U P y0 (k+1)/4294967296^k%4294967296):=by
 rw[Nat.pow_succ,Nat.mod_mul,qaV]
theorem q73(U:List Nat)(P y0 k:Nat):mS U P y0 (k+1)/4294967296^k/4294967296=mS U P y0 (k+1)/4294967296^(k+1):=by
 rw[Nat.pow_succ,Nat.div_div_eq_div_mul]
theorem q3Z(U:List Nat)(hl:Lim U){P y0:Nat}(hy:y0<P):∀k,mS U P y0 k/4294967296^k<P
 | 0=>by rw[q4Z];simpa using hy
 | k+1=>by
  have h1:=q3Z U hl hy k;have h2:=q40 U P y0 k;have h3:nth U k<4294967296:=q1D hl k;rw[<- q73,<- h2];apply Nat.div_lt_of_lt_mul
  have h4:nth U k*P<=4294967295*P:=Nat.mul_le_mul_right _ (by omega);omega
theorem q74(U:List Nat)(P y0:Nat):mS U P y0 U.length=val U*P+y0:=by unfold mS;rw[List.take_length]
structure MulAt(U L:List Nat)(P y0 k:Nat):Prop where
 len:L.length=U.length
 lim:Lim L
 low:val (L.take k)=mS U P y0 k%4294967296^k
 high:∀j,k<=j->nth L j=nth U j
theorem MulAt.start{U:List Nat}(hl:Lim U)(P y0:Nat):MulAt U U P y0 0:=⟨rfl,hl,by simp [val,Nat.mod_one],fun _ _=>rfl⟩
theorem MulAt.step{U L:List Nat}{P y0 k:Nat}(h:MulAt U L P y0 k)(hk:k<U.length):MulAt U (L.set k (mS U P y0 (k+1)/4294967296^k%4294967296)) P y0 (k+1):=by
 refine⟨by rw[List.length_set];exact h.len,q7G h.lim k (Nat.mod_lt _ (by omega)),?_,fun j hj=>?_⟩
 ·rw[q0g _ _ _ (by rw[h.len];exact hk),h.low,q9L]
 ·rw[q0q _ _ (by omega)];exact h.high j (by omega)
theorem MulAt.fin{U L:List Nat}{P y0:Nat}(h:MulAt U L P y0 U.length):val L=(val U*P+y0)%4294967296^U.length:=by
 have:=h.low;rw[<- h.len,List.take_length,h.len,q74] at this;exact this
theorem q0D(t:ByteArray):t.data.toList.length=t.size:=Array.length_toList
theorem q5V(t:ByteArray)(a b:Nat):(t.extract a b).data.toList=(t.data.toList.take b).drop a:=by
 rw[ByteArray.data_extract,Array.toList_extract,List.extract_eq_drop_take']
theorem NatCell.set{w:World}{g b o:Nat}{v:Value}(h:NatCell w g)(hb:b≠g):NatCell (w.setCell ⟨b,o,none⟩ v) g:=
 ⟨(q0i (fun e=>hb (congrArg Addr.block e))).trans h.c0,by rw[<- h.fz];exact World.frozen?_of_block (Go.Deep.blk_setCell_other _ _ _ _ (fun e=>hb e.symm)),by rw[Go.Deep.nblk_setCell];exact h.lt⟩
theorem q6b(w:World)(s:ByteArray):
  ∃cap w1,(convert 9 85 (.string s)).run Tryz.prog w=.ok (.slice (some ⟨w.heap.size,0,none⟩) s.size cap) w1/\(∀k (h:k<s.size),w1.cell? ⟨w.heap.size,k,none⟩=some (.int .u8 ((s[k].toNat:Nat):Int)))/\Below w.heap.size w w1/\w1.heap.size=w.heap.size+1:=by
 refine⟨_,_,run_bytes_of_string w 9 85 5 s Tryz.underlying9 Tryz.underlying85 Tryz.underlying5,fun k h=>q6c w.drew s _ _ _ k h,?_,by simp⟩;exact(q04 (Below.refl w.heap.size w)).alloc lr _
end Go.Proofs.YtcdimmblnbkjjaaGreatDoor
namespace Go.Proofs.YtcdimmblnbkjjaaGreatDoor.A
open Go Go.RowKit
theorem q8g(B:Nat)(v:Value)(U:List Nat)(m c:Nat)(w:World)(hr:w.ownsRow B 34 1 v U.length (q0w U))(hl:Lim U)(hm:m<4294967296)(hc:c<m)(hU:U.length<=1000000000)(hB:B<=w.heap.size):
  Calls Tryz.prog 287 #[v,.int .u32 (m:Int),.int .u32 (c:Int)] w fun e w'=>∃v' L,e=.returned v'/\w'.ownsRow B 34 1 v' L.length (q0w L)/\Lim L/\val L=val U*m+c/\L.length<=U.length+1/\Below B w w':=by
 obtain⟨i0,hi,c3,c4,c5⟩:=info_parts Go.Proofs.YtcdimmblnbkjjaaGreatDoor.B.inf;obtain⟨A,cap,rfl⟩:=q4T hr;have HR:=vv hr;have HL:=vv hl;have c6:=vv (q3Z U hl hc);have b3:=vv hB;have c7:(U.length:Int)<=1000000000:=by omega
 have d6:(m:Int)<=4294967295:=by omega
 have d7:(c:Int)<=4294967295:=by omega
 have d8:=vv hm;clear hr hl hU hB;go_enter Tryz.func287,Tryz.ntmps287
 go_wp2;go_loopw [7,8] (fun y q wr=>∃(k:Nat) (L:List Nat),k<=U.length/\q=.int .i64 (k:Int)/\y=.int .u64 ((mS U m c k/4294967296^k:Nat):Int)/\MulAt U L m c k/\wr.ownsRow B 34 1 (.slice A U.length cap) U.length (q0w L)/\Below B w wr) (fun _ q _=>U.length-(intOf q).toNat)
 case atStart=>exact⟨0,U,Nat.zero_le _,rfl,by rw[q4Z,Nat.pow_zero,Nat.div_one],MulAt.start HL.o m c,HR.o,Below.refl _ _⟩
 case round =>
  obtain⟨q,L,hq,rfl,rfl,hM,a0,hB⟩:=hrel;have HM:=vv hM;have b6:=vv a0;have b4:=vv hB;have a8:=c6.o q;by_cases hqn:q<U.length
  ·obtain⟨g,cap',e,b7⟩:=q4m a0 (by omega);cases e
   obtain⟨r1,r2,r3,r4⟩:=q3V a0 hqn;rw[hM.high q lr] at r1;have a9:nth U q<4294967296:=q1D HL.o q;have b8:=q40 U m c q;obtain⟨Z,hZ⟩:=yx (mS U m c (q+1)/4294967296^q);obtain⟨y,a7⟩:=yx (mS U m c q/4294967296^q);obtain⟨v,hv⟩:=yx (nth U q);obtain⟨M,b5⟩:=yx (v*m);rw[<- hZ,<- a7,<- hv,<- b5] at b8;rw[<- hv] at r1 a9;rw[<- a7] at a8 ⊢;have b9:(v:Int)*(m:Int)=(M:Int):=by rw[b5,Int.natCast_mul]
   have c8:(M:Int)+(y:Int)=(Z:Int):=by omega
   have d9:(M:Int)<=18446744065119617025:=by
    have b1:v*m<=4294967295*4294967295:=Nat.mul_le_mul (by omega) (by omega);rw[<- b5] at b1;omega
   have e0:(v:Int)<=4294967295:=by omega
   have c9:(y:Int)<=4294967295:=by omega
   have e1:(Z:Int)<=18446744069414584320:=by omega
   have b0:=vv (hM.step hqn);have HZ:=vv hZ;have d0:Hid ((wr.setCell ⟨g,q,none⟩ (.int .u32 ((Z:Int)%4294967296))).ownsRow B 34 1 (.slice (some ⟨g,0,none⟩) U.length cap) U.length (q0w (L.set q (Z%4294967296)))):=vv (by
    have:=q6G a0 q (Z%4294967296);rw[Int.natCast_emod] at this;exact this)
   have b3:=vv (hB.setCell (p:=⟨g,q,none⟩) (show B<=g by omega) (.int .u32 ((Z:Int)%4294967296)));have e2:(q:Int)<(U.length:Int):=by omega
   clear hM a0 hB a8 a9 b8 hZ a7 hv b5;go_wp2;go_roundw
   case rel =>
    refine⟨q+1,L.set q (Z%4294967296),by omega,by go_num,congrArg _ ?_,?_,d0.o,b3.o⟩
    ·rw[<- q73,<- HZ.o];omega
    ·rw[HZ.o];exact b0.o
   case measure=>simp [intOf];omega
  ·have d1:q=U.length:=by omega
   subst d1;obtain⟨S,hS⟩:=yx (val U*m+c);have a5:=HM.o.fin;have a6:=q74 U m c;rw[<- hS] at a5 a6;have c0:=vv hS;rw[a6] at a8 ⊢;have b2:=vv HM.o.len;have a2:=vv (Nat.div_add_mod S (4294967296^U.length));obtain⟨y,a7⟩:=yx (S/4294967296^U.length);rw[<- a7] at a8 a2 ⊢;rw[<- a5] at a2;have c1:=vv HM.o.lim;have c9:(y:Int)<=4294967295:=by omega
   clear a6 a5 a7 hS a8;by_cases hy0:0<y
   ·have e3:=vv (show(U.length:Int)<=1000000000 from c7);clear hM a0 hB;go_wp2_with (at_builtin;refine wpList_append_own _ rfl _ _ 26 rfl B 34 i0 (.int .u32 0) 1 4 Tryz.underlying26 hi c3 c4 c5 rfl (by decide) _ U.length (q0w L) rfl (b6.o.alloc _) ⟨wr.heap.size,0,none⟩ 1 1 [.int .u32 (y:Int)] rfl rfl (cell_one_new _ _ _) (by simp [Value.oneCell']) (by unfold maxLen;omega) (by omega) (by have:=b4.o.size;have:=b3.o;simp;omega) ?_)
    intro v' w5 a3 a1 _;have a4:w5.ownsRow B 34 1 v' (U.length+1) (q0w (L++[y])):=by
     have e:q0w (L++[y])=q0w L++[.int .u32 (y:Int)]:=by simp [q0w]
     rw[e];exact a3
    have b7:=b6.o.lt;have c2:Below B w w5:=by
     have d2:B<=wr.heap.size:=Nat.le_trans b3.o b4.o.size;exact(b4.o.alloc d2 _).grown a1 (by simp;omega) (fun k h=>(b7 k h).1)
    have d3:=vv a4;have d4:=vv c2;clear a3 a1 a4 c2 b7;go_wp2;go_ret
    refine⟨v',L++[y],rfl,?_,q1Z.2 ⟨c1.o,q0B.2 ⟨by omega,q11⟩⟩,?_,by rw[List.length_append,b2.o];exact lr,d4.o⟩
    ·rw[List.length_append,b2.o];exact d3.o
    ·rw[q2O,b2.o,Nat.add_comm,<- c0.o];exact a2.o
   ·have d5:y=0:=by omega
    subst d5;clear hy0 hM a0 hB;go_wp2;go_ret
    refine⟨_,L,rfl,by rw[b2.o];exact b6.o,c1.o,?_,by rw[b2.o];omega,b4.o⟩;have:=a2.o;rw[Nat.mul_zero,Nat.zero_add] at this;rw[<- c0.o];exact this
def fig(d:Nat):Nat:=if d<10 then 48+d else 87+d
theorem q6n(c:Nat)(w:World)(h1:48<=c)(h2:c<=57):Calls Tryz.prog 286 #[.int .u8 (c:Int)] w fun e w'=>e=.returned (.int .u32 ((c:Int)-48))/\w=w':=by
 have a0:(48:Int)<=(c:Int):=by omega
 have a1:(c:Int)<=57:=by omega
 go_enter Tryz.func286,Tryz.ntmps286
 go_wp2;go_ret
 exact⟨rfl,rfl⟩
theorem q5L(c:Nat)(w:World)(h1:97<=c)(h2:c<=122):Calls Tryz.prog 286 #[.int .u8 (c:Int)] w fun e w'=>e=.returned (.int .u32 ((c:Int)-87))/\w=w':=by
 have a0:(97:Int)<=(c:Int):=by omega
 have a1:(c:Int)<=122:=by omega
 go_enter Tryz.func286,Tryz.ntmps286
 go_wp2;go_ret
 exact⟨q0A (by omega),rfl⟩
theorem qbi(d:Nat)(w:World)(h:d<16):Calls Tryz.prog 286 #[.int .u8 ((fig d:Nat):Int)] w fun e w'=>e=.returned (.int .u32 (d:Int))/\w=w':=by
 unfold fig;split
 ·refine(q6n (48+d) w (by omega) (by omega)).mono ?_;rintro e w' ⟨rfl,rfl⟩;exact⟨q0A (by omega),rfl⟩
 ·refine(q5L (87+d) w (by omega) (by omega)).mono ?_;rintro e w' ⟨rfl,rfl⟩;exact⟨q0A (by omega),rfl⟩
theorem Rsh(g o gx ox k:Nat)(v u:Int)(w:World)(h:IntAt w g o v)(hx:IntAt w gx ox u)(hu:0<=u)(hk:k<30000000000000):
  Calls Tryz.prog 231 #[.pointer (some ⟨g,o,none⟩),.pointer (some ⟨gx,ox,none⟩),.int .u64 (k:Int)] w (q0v g o (u/2^k) w):=by
 have HI:=vv h;have a0:=hx.lt;obtain⟨A,n,c,h0,h1,hr,hz⟩:=hx.ex;have hd:decide (u<0)=false:=decide_eq_false (by omega);rw[hd] at h0;have a2:IntKind.i64.wrap (k:Int)=(k:Int):=by rw[IntKind.wrap_i64];omega
 have HM:=vv (qbg A n c _ k _ rfl w hr (by omega));have HU:Hid ((u/2^k).natAbs=u.natAbs/2^k):=vv (by
  obtain⟨N,rfl⟩:∃N:Nat,u=(N:Int):=⟨u.toNat,by omega⟩;have:((N:Int)/2^k)=((N/2^k:Nat):Int):=by rw[Int.natCast_ediv,Int.natCast_pow];rfl
  rw[this];rfl)
 have HP:Hid (0<=u/2^k):=vv (Int.ediv_nonneg hu (by
  have:(0:Int)<2^k:=by exact_mod_cast Nat.pow_pos (n:=k) (show 0<2 by decide)
  omega))
 clear hr hz h hx hk hu hd;go_enter Tryz.func231,Tryz.ntmps231
 go_wp2_with fail
 refine HM.o.mono ?_;rintro e w1 ⟨A',m',c',rfl,hR,a1,hB⟩;have HB:=vv hB;have j0:=(hB.cell (p:=⟨gx,ox,none⟩) a0).trans h0;have j1:=(hB.cell (p:=⟨gx,ox+1,none⟩) a0).trans h1;rw[q03] at hR;have HR:=vv hR;have HF:=vv a1;have a3:gx<w1.heap.size:=Nat.lt_of_lt_of_le a0 hB.size;clear hR a1 hB h0 h1 a0;go_wp2_with fail
 refine(q0X g o v (u/2^k) _ A' m' c' (u.natAbs/2^k) _ (HI.o.below HB.o) HR.o (fun a e=>(HF.o a e).2) HU.o (q4l HP.o)).mono ?_;rintro e w2 ⟨rfl,hI,hF⟩;go_wp2;go_ret
 exact⟨rfl,hI,(Fm.of_below HB.o HI.o.lt).trans hF⟩
theorem TrailingZeroBits(g o:Nat)(u:Int)(w:World)(h:IntAt w g o u)(hu:u≠0)(hs:Std w):
  Calls Tryz.prog 230 #[.pointer (some ⟨g,o,none⟩)] w fun e w'=>e=.returned (.int .u64 ((tz u.natAbs:Nat):Int))/\w=w':=by
 have a0:=h.lt;obtain⟨A,n,c,h0,h1,hr,hz⟩:=h.ex;have HZ:=vv (q13 A n c u.natAbs w hr (by omega) hs);have hb:(tz u.natAbs:Int)<18446744073709551616:=by
  have h1:=q1S (n:=u.natAbs) (by omega);have h2:=bl_words u.natAbs;have h3:=hr.words;have h4:=hr.sm;omega
 have hw:IntKind.u64.wrap ((tz u.natAbs:Nat):Int)=((tz u.natAbs:Nat):Int):=by rw[IntKind.wrap_u64];omega
 clear hr hz h hs hu;go_enter Tryz.func230,Tryz.ntmps230
 go_wp2_with fail
 refine HZ.o.mono ?_;rintro e w1 ⟨rfl,rfl⟩;go_wp2;go_ret
 exact⟨rfl,rfl⟩
def wv(l:List Nat):Nat:=l.foldl (fun n d=>16*n+d) 0
theorem q9j(l:List Nat):∀n,l.foldl (fun n d=>16*n+d) n=n*16^l.length+wv l:=by
 induction l with
 | nil=>intro n;simp [wv]
 | cons a l ih =>
  intro n;show l.foldl _ (16*n+a)=_;unfold wv;rw[ih,List.foldl_cons,ih (16*0+a),List.length_cons,Nat.pow_succ];rw[Nat.add_mul,Nat.mul_zero,Nat.zero_add,Nat.add_assoc,Nat.mul_comm 16 n,Nat.mul_assoc,Nat.mul_comm 16]
theorem q2X(a b:List Nat):wv (a++b)=wv a*16^b.length+wv b:=by
 unfold wv;rw[List.foldl_append];exact q9j b _
theorem q9i(a:List Nat)(d:Nat):wv (a++[d])=16*wv a+d:=by
 rw[q2X,List.length_singleton,Nat.pow_one,Nat.mul_comm];show _+(16*0+d)=_;omega
theorem wv_lt{l:List Nat}(h:∀d∈l,d<16):wv l<16^l.length:=by
 have:∀l:List Nat,(∀d∈l,d<16)->wv l<16^l.length:=by
  intro l
  induction l with
  | nil=>intro _;decide
  | cons a l ih =>
   intro h;have h1:=ih fun d hd=>h d (List.mem_cons_of_mem _ hd)
   have h2:=h a List.mem_cons_self;have e:=q2X [a] l;rw[List.singleton_append] at e;rw[e,List.length_cons,Nat.pow_succ];have e2:wv [a]=a:=by show 16*0+a=a;omega
   rw[e2];have h3:a*16^l.length<=15*16^l.length:=Nat.mul_le_mul_right _ (by omega);omega
 exact this l h
structure Hexs(s:ByteArray)(l:List Nat):Prop where
 len:s.size=l.length
 at_:∀i (h:i<s.size),(s[i]'h).toNat=fig (l.getD i 0)
 small:∀i,l.getD i 0<16
theorem Hexs.mem{s:ByteArray}{l:List Nat}(h:Hexs s l):∀d∈l,d<16:=by
 intro d hd;obtain⟨i,hi,rfl⟩:=List.mem_iff_getElem.1 hd;have:=h.small i
 rwa [List.getD_eq_getElem?_getD,List.getElem?_eq_getElem hi] at this
theorem Hexs.cut{s t:ByteArray}{l:List Nat}(h:Hexs s l){a b:Nat}(ht:t.data.toList=(s.data.toList.drop a).take b):Hexs t ((l.drop a).take b):=by
 have hs:t.size=min b (s.size-a):=by rw[<- q0D,ht,List.length_take,List.length_drop,q0D]
 refine⟨by rw[hs,List.length_take,List.length_drop,h.len],fun i hi=>?_,fun i=>?_⟩
 ·have a1:t.data.toList[i]?=s.data.toList[a+i]?:=by rw[ht,List.getElem?_take,if_pos (by omega),List.getElem?_drop]
  rw[List.getElem?_eq_getElem (by rw[q0D];exact hi),List.getElem?_eq_getElem (by rw[q0D];omega)] at a1;have a2:t[i]=s[a+i]'(by omega):=Option.some.inj a1;rw[a2,h.at_ (a+i) (by omega)];rw[List.getD_eq_getElem?_getD,List.getD_eq_getElem?_getD,List.getElem?_take,if_pos (by omega),List.getElem?_drop]
 ·rw[List.getD_eq_getElem?_getD,List.getElem?_take];split
  ·rw[List.getElem?_drop,<- List.getD_eq_getElem?_getD];exact h.small _
  ·decide
theorem q9H(w:World):Rd (w.alloc (.cells #[.int .u32 1] 34)) (some ⟨w.heap.size,0,none⟩) 1 1 [1]:=
 (Own.lit (t:=34) [1] (q0B.2 ⟨by omega,q11⟩) rfl).rd rfl lr (by decide)
theorem qad(h j:Nat):(bits .and .i64 ((h:Int)/2^j) 1==1)=decide (h/2^j%2=1):=by
 rw[q2z];have e:bits .and .i64 ((h/2^j:Nat):Int) 1=((h/2^j%2:Nat):Int):=by
  generalize h/2^j=n;have a0:(BitVec.ofInt 64 1).toNat=2^1-1:=by decide
  have key:(BitVec.ofInt 64 (n:Int) &&& BitVec.ofInt 64 1).toNat=((n:Int)%((2^64:Nat):Int)).toNat%2^1:=by
   rw[BitVec.toNat_and,BitVec.toNat_ofInt,a0,Nat.and_two_pow_sub_one_eq_mod]
  show IntKind.i64.wrap ((BitVec.ofInt 64 (n:Int) &&& BitVec.ofInt 64 1).toNat:Nat)=_;rw[key,IntKind.wrap_i64];omega
 rw[e];rcases Nat.mod_two_eq_zero_or_one (h/2^j) with h|h<;>rw[h]<;>rfl
theorem q1w(n:Nat)(h:n<=131072){A:Option Addr}{m c:Nat}{w:World}(hr:Rd w A m c (toL (16^n))):m<=16385:=by
 obtain⟨k,hk⟩:=yx (16385);rw[<- hk];refine hr.bound (k:=k) ?_;have e:(4294967296:Nat)^k=2^(32*k):=by rw[Nat.pow_mul]
 have e2:(16:Nat)^n=2^(4*n):=by rw[Nat.pow_mul]
 rw[e,e2];exact Nat.pow_lt_pow_right (by decide) (by omega)
theorem q9w(h j:Nat):16^(h/2^j)=16^(h/2^(j+1))*16^(h/2^(j+1))*16^(h/2^j%2):=by
 have e:=q2I h j;have e2:h/2^j=h/2^(j+1)+h/2^(j+1)+h/2^j%2:=by omega
 conv=>lhs;rw[e2]
 rw[Nat.pow_add,Nat.pow_add]
def qbD(h:Nat)(w:World)(v q:Value)(wr:World):Prop:=
 ∃(k:Nat) (A:Option Addr) (m c:Nat),q=.int .i64 ((k:Int)-1)/\k<=63/\v=.slice A m c/\Rd wr A m c (toL (16^(h/2^k)))/\Fr w.heap.size A/\Below w.heap.size w wr
theorem qax{A:Option Addr}{m c P:Nat}{w:World}(hR:Rd w A m c (toL P))(hm:m<=20000):Calls Tryz.prog 142 #[.slice A m c,.slice A m c] w (q0e (P*P) w):=by
 have:=q2S A A m m c c _ _ w hR hR (by omega)
 rwa [q03] at this
theorem qbZ{A:Option Addr}{m c P:Nat}{w:World}(hR:Rd w A m c (toL P))(hm:m<=20000):
  Calls Tryz.prog 142 #[.slice A m c,.slice (some ⟨w.heap.size,0,none⟩) 1 1] (w.alloc (.cells #[.int .u32 16] 34)) (q0e (P*16) w):=by
 have hb:Below w.heap.size w (w.alloc (.cells #[.int .u32 16] 34)):=(Below.refl _ _).alloc lr _;have h2:Rd (w.alloc (.cells #[.int .u32 16] 34)) (some ⟨w.heap.size,0,none⟩) 1 1 [16]:=(Own.lit (t:=34) [16] (q0B.2 ⟨by omega,q11⟩) rfl).rd rfl lr (by decide);refine(q2S A _ m 1 c 1 _ _ _ (hR.below hb rfl) h2 (by omega)).mono ?_;rintro e w' ⟨A',m',c',rfl,hr,hf,hB⟩;rw[q03] at hr;exact⟨A',m',c',rfl,hr,hf.mono (by simp),hb.trans (hB.mono (by simp))⟩
theorem qbn(h:Nat)(w:World)(hh:h<=65536):
  Calls Tryz.prog 285 #[.int .i64 16,.int .i64 (h:Int)] w (q0e (16^h) w):=by
 have c7:(h:Int)<=65536:=by omega
 have HE:Hid (∀k,h/2^k<=65536):=vv fun k=>Nat.le_trans (Nat.div_le_self _ _) hh
 have H0:Hid (qbD h w (.slice (some ⟨w.heap.size,0,none⟩) 1 1) (.int .i64 62) (w.alloc (.cells #[.int .u32 1] 34))):=vv (by
  refine⟨63,_,_,_,rfl,by decide,rfl,?_,Fr.at_ lr,(Below.refl _ _).alloc lr _⟩;rw[Nat.div_eq_of_lt (Nat.lt_of_le_of_lt hh (by decide))];exact q9H w)
 go_enter Tryz.func285,Tryz.ntmps285
 go_wp2;go_loopw [5,6] (fun v q wr=>qbD h w v q wr) (fun _ q _=>(intOf q+1).toNat)
 case atStart=>exact H0.o
 case round =>
  obtain⟨k,A,m,c,rfl,hk,rfl,hr,hF,hB⟩:=hrel;have c8:=q1w _ (by have:=HE.o k;omega) hr;have HR:=vv hr;have HF:=vv hF;have HB:=vv hB;rcases Nat.eq_zero_or_pos k with rfl|c9
  ·rw[Nat.pow_zero,Nat.div_one] at HR;clear hr hF hB H0;go_wp2;go_ret
   exact⟨_,_,_,rfl,HR.o,HF.o,HB.o⟩
  ·obtain⟨j,rfl⟩:∃j,k=j+1:=⟨k-1,by omega⟩;have c4:((j+1:Nat):Int)-1=(j:Int):=by omega
   rw[c4];have c5:(j:Int)<=62:=by omega
   have b6:=vv (q9w h j);obtain⟨P,hP⟩:=yx (16^(h/2^(j+1)));rw[<- hP] at HR b6;have b1:0<P:=by rw[hP];exact Nat.pow_pos (by decide)
   have HQ:Hid (∀{A:Option Addr} {m c:Nat} {w:World},Rd w A m c (toL (P*P))->m<=20000):=vv fun hr=>by
    rw[hP,<- Nat.pow_add] at hr;exact Nat.le_trans (q1w _ (by have:=HE.o (j+1);omega) hr) (by decide)
   have HM:Hid (((j:Int)-1+1).toNat<((j:Int)+1).toNat):=vv (by omega);have a0:Hid (∀(A:Option Addr) (m c b:Nat) (wr:World),h/2^j%2=b->Rd wr A m c (toL (P*P*16^b))->Fr w.heap.size A->Below w.heap.size w wr->qbD h w (.slice A m c) (.int .i64 ((j:Int)-1)) wr):=vv fun A m c b wr e hr hF hB=>⟨j,A,m,c,rfl,by omega,rfl,by rw[b6.o,e];exact hr,hF,hB⟩
   have b2:=vv (qad h j);have b3:0<m:=by
    rcases Nat.eq_zero_or_pos m with e|e
    ·subst e;have:=HR.o.words;rw[q0c] at this;omega
    ·exact e
   obtain⟨b,off,rfl,d0,a3⟩:=HR.o.cell b3;have b7:=a3 0 b3;rw[Nat.add_zero] at b7;have a8:(h/2^j%2=0/\(bits .and .i64 ((h:Int)/2^j) 1==1)=false)\/(h/2^j%2=1/\(bits .and .i64 ((h:Int)/2^j) 1==1)=true):=by
    rw[b2.o];rcases Nat.mod_two_eq_zero_or_one (h/2^j) with e|e<;>rw[e]
    ·exact .inl ⟨rfl,rfl⟩
    ·exact .inr ⟨rfl,rfl⟩
   have a9:(P=1/\m=1/\nth (toL P) 0=1)\/(m=1/\1<nth (toL P) 0)\/1<m:=by
    rcases(by omega:1<m\/m=1) with e|e
    ·exact .inr (.inr e)
    ·have hw:=HR.o.words;rw[e] at hw;have hn:nth (toL P) 0=P:=by
      have h1:=q03 P;have h2:(toL P).length=1:=HR.o.len.trans e;obtain⟨x,hx⟩:∃x,toL P=[x]:=List.length_eq_one_iff.1 h2;rw[hx] at h1 ⊢;have:val [x]=x:=by simp [val]
      rw[this] at h1;rw[h1];rfl
     rcases(by omega:P=1\/1<P) with e1|e1
     ·exact .inl ⟨e1,e,hn.trans e1⟩
     ·exact .inr (.inl ⟨e,by omega⟩)
   clear hr hF hB a3 hP H0 b1 b3;have b0:=vv (qax HR.o (by omega));rcases a9 with ⟨rfl,rfl,hn⟩|⟨rfl,hn⟩|d1
   ·rw[hn] at b7;have b8:Hid (Rd wr (some ⟨b,off,none⟩) 1 c (toL (1*1))):=HR;clear hn;rcases a8 with ⟨a1,b4⟩|⟨a1,b4⟩
    ·have a6:=vv a1;clear a1;go_wp2;go_roundw
     case rel=>exact a0.o _ _ _ 0 _ a6.o b8.o HF.o HB.o
     case measure=>exact HM.o
    ·have a6:=vv a1;have a7:=vv (qbZ b8.o (by omega));clear a1;go_wp2_with fail
     refine a7.o.mono ?_;rintro e w1 ⟨A1,m1,c1,rfl,a2,a4,a5⟩;have H1:=vv (a0.o _ _ _ 1 _ a6.o a2 (a4.mono HB.o.size) (HB.o.trans (a5.mono HB.o.size)));clear a2 a4 a5;go_wp2;go_roundw
     case rel=>exact H1.o
     case measure=>exact HM.o
   all_goals
    first
     | (have c6:(1:Int)<((nth (toL P) 0:Nat):Int):=by omega)
     | (have c6:(1:Int)<(m:Int):=by omega)
    rcases a8 with ⟨a1,b4⟩|⟨a1,b4⟩
    ·have a6:=vv a1;clear a1;go_wp2_with fail
     refine b0.o.mono ?_;rintro e w1 ⟨A1,m1,c1,rfl,a2,a4,a5⟩;have H1:=vv (a0.o _ _ _ 0 _ a6.o (by rw[Nat.pow_zero,Nat.mul_one];exact a2) (a4.mono HB.o.size) (HB.o.trans (a5.mono HB.o.size)));clear a2 a4 a5;go_wp2;go_roundw
     case rel=>exact H1.o
     case measure=>exact HM.o
    ·have a6:=vv a1;clear a1;go_wp2_with fail
     refine b0.o.mono ?_;rintro e w1 ⟨A1,m1,c1,rfl,a2,a4,a5⟩;have d2:=vv (a4.mono HB.o.size);have b5:=vn HB a5;have a7:=vv (qbZ a2 (HQ.o a2));clear a2 a4 a5;go_wp2_with fail
     refine a7.o.mono ?_;rintro e w2 ⟨A2,m2,c2,rfl,b9,c0,c3⟩;have H1:=vv (a0.o _ _ _ 1 _ a6.o b9 (c0.mono b5.o.size) (b5.o.trans (c3.mono b5.o.size)));clear b9 c0 c3;go_wp2;go_roundw
     case rel=>exact H1.o
     case measure=>exact HM.o
theorem q4d(l:List Nat)(k:Nat)(h:k<l.length):wv (l.take (k+1))=16*wv (l.take k)+nth l k:=by
 rw[List.take_succ_eq_append_getElem h,q9i];unfold nth;rw[List.getD_eq_getElem?_getD,List.getElem?_eq_getElem h];rfl
theorem qaC{w:World}{base:Nat}{e:TypeId}{A:Option Addr}{n c:Nat}{L:List Nat}(h:w.ownsRow base e 1 (.slice A n c) n (q0w L))(hl:Lim L)(hn:n<=35184372088832):Rd w A n c L/\Fr base A:=by
 have a0:L.length=n:=by have:=h.1;simpa [q0w] using this
 rcases h.2 with ⟨h2,rfl⟩|⟨g,cap,cur,hv,hb,hg,hc,hm,hs,ht⟩
 ·cases h2
  exact⟨⟨a0,lr,hn,hl,fun h=>absurd h (by omega)⟩,Fr.none_ _⟩
 ·cases hv
  exact⟨⟨a0,hc,hn,hl,fun _=>⟨g,0,rfl,(Array.getElem?_eq_some_iff.1 hg).1,fun j hj=>by rw[Nat.zero_add];exact(q3V h hj).1⟩⟩,Fr.at_ hb⟩
def q7E(l:List Nat)(n:Nat)(B:Nat)(w:World)(v t c i:Value)(wr:World):Prop:=
 ∃(k T C:Nat) (L:List Nat),i=.int .i64 (k:Int)/\k<=n/\t=.int .u32 (T:Int)/\c=.int .u32 (C:Int)/\1<=T/\(T<=1048576\/T=16777216)/\C<T/\(∃j,T=16^j)/\(k=n->T=1) /\
  wr.ownsRow B 34 1 v L.length (q0w L)/\Lim L/\val L*T+C=wv (l.take k)/\L.length<=k/\Below B w wr
theorem q5U{T j:Nat}(h:T=16^j)(hT:T<=1048576):16*T<=1048576\/16*T=16777216:=by
 subst h;have:j<=5:=by
  rcases Nat.lt_or_ge 5 j with h|h
  ·have:=Nat.pow_le_pow_right (n:=16) (by decide) h;have e:16^(5+1)=16777216:=by decide
   omega
  ·exact h
 rcases(by omega:j=0\/j=1\/j=2\/j=3\/j=4\/j=5) with rfl|rfl|rfl|rfl|rfl|rfl<;>decide
def q5J(N n:Nat)(w:World)(e:Ending)(w':World):Prop:=
 ∃A m c xs,e=.returned (.tuple #[.slice A m c,.bool true])/\Rd w' A m c xs/\val xs=N/\m<=n/\Fr w.heap.size A/\Below w.heap.size w w'
theorem q3H(s:ByteArray)(l:List Nat)(w:World)(h:Hexs s l)(hs:s.size<=300):
  Calls Tryz.prog 265 #[.string s,.int .i64 16] w (q5J (wv l) s.size w):=by
 have H:=vv h;have c6:(s.size:Int)<=300:=by omega
 have c7:decide ((300:Int)<(s.size:Int))=false:=decide_eq_false (by omega);have HL:=vv h.len;have H0:Hid (q7E l s.size w.heap.size w (.slice none 0 0) (.int .u32 1) (.int .u32 0) (.int .i64 0) w):=vv ⟨0,1,0,[],rfl,Nat.zero_le _,rfl,rfl,lr,.inl (by decide),by decide,⟨0,rfl⟩,fun _=>rfl,World.ownsRow_nil _ _ _ _,q11,rfl,Nat.zero_le _,Below.refl _ _⟩;clear h hs;go_enter Tryz.func265,Tryz.ntmps265
 go_wp2;go_loopw [11,12,13,14] (fun v t c i wr=>q7E l s.size w.heap.size w v t c i wr) (fun _ _ _ i _=>s.size-(intOf i).toNat)
 case atStart=>exact H0.o
 case round =>
  clear H0;obtain⟨k,T,C,L,rfl,hk,rfl,rfl,c0,hT,hC,hj,a4,a5,a6,a7,a9,hB⟩:=hrel;have a0:=vv a5;have a1:=vv a6;have a2:=vv a7;have HB:=vv hB;have HJ:=vv hj;have b0:=vv a4;have c1:=hB.size;clear a5 a6 a7 hB hj a4;by_cases hks:k<s.size
  ·have hf:=H.o.at_ k hks;have a3:=H.o.small k;have b1:=q4d l k (by have:=HL.o;omega);obtain⟨d,hd⟩:=yx (nth l k);rw[show l.getD k 0=d from hd.symm] at hf a3;rw[<- hd] at b1;have HW:=vv fun w=>qbi d w a3
   rw[<- hf] at HW;have b7:=vv b1;have c8:(d:Int)<=15:=by omega
   have c9:(T:Int)<=16777216:=by omega
   have c2:(1:Int)<=(T:Int):=by omega
   have d0:(C:Int)<(T:Int):=by omega
   have d1:(k:Int)<(s.size:Int):=by omega
   clear hf b1 hd a3;have b8:Hid (∀(v':Value) (L':List Nat) (w':World),w'.ownsRow w.heap.size 34 1 v' L'.length (q0w L')->Lim L'->val L'=val L*(16*T)+(16*C+d)->L'.length<=L.length+1->Below w.heap.size wr w'->q7E l s.size w.heap.size w v' (.int .u32 1) (.int .u32 0) (.int .i64 ((k:Int)+1)) w'):=vv fun v' L' w' h1 h2 h3 h4 h5 =>
    ⟨k+1,1,0,L',by go_num,by omega,rfl,rfl,lr,.inl (by decide),by decide,⟨0,rfl⟩,fun _=>rfl,h1,h2,by
     rw[b7.o,<- a2.o,h3,Nat.mul_add,Nat.mul_one,Nat.add_zero,Nat.mul_left_comm];omega,by omega,HB.o.trans h5⟩
   obtain⟨M,hM⟩:=yx (T*16);obtain⟨N,hN⟩:=yx (C*16+d);have b2:N<M:=by omega
   have b3:M<=268435456:=by omega
   have HM:=vv (q8g w.heap.size _ L M N wr a0.o a1.o (by omega) b2 (by omega) c1);have a8:Hid (∀(v':Value) (L':List Nat) (w':World),w'.ownsRow w.heap.size 34 1 v' L'.length (q0w L')->Lim L'->val L'=val L*M+N->L'.length<=L.length+1->Below w.heap.size wr w'->q7E l s.size w.heap.size w v' (.int .u32 1) (.int .u32 0) (.int .i64 ((k:Int)+1)) w'):=vv fun v' L' w' h1 h2 h3 h4 h5=>b8.o v' L' w' h1 h2 (by rw[h3,hM,hN,Nat.mul_comm T,Nat.mul_comm C]) h4 h5
   have d2:(T:Int)*16=(M:Int):=by omega
   have d3:(C:Int)*16+(d:Int)=(N:Int):=by omega
   have d4:(M:Int)<=268435456:=by omega
   have d5:(N:Int)<(M:Int):=by omega
   have b4:T=16777216/\M=268435456\/M<=16777216:=by omega
   have b5:Hid (M<=268435455->k+1<s.size->q7E l s.size w.heap.size w u11 (.int .u32 (M:Int)) (.int .u32 (N:Int)) (.int .i64 ((k:Int)+1)) wr):=vv fun h1 h2 =>
    ⟨k+1,M,N,L,by go_num,by omega,rfl,rfl,by omega,by
     obtain⟨j,hj⟩:=HJ.o;have:=q5U hj (by omega);omega,b2,by
     obtain⟨j,hj⟩:=HJ.o;exact⟨j+1,by rw[hM,hj,Nat.pow_succ]⟩,fun e=>by omega,a0.o,a1.o,by
     rw[b7.o,<- a2.o,hM,hN,Nat.mul_add,<- Nat.mul_assoc,Nat.mul_comm _ 16];omega,by omega,HB.o⟩
   clear hT c0 hM hN b2 b8;have c3:(268435455<M)\/(M<=268435455/\k+1=s.size)\/(M<=268435455/\k+1<s.size):=by omega
   rcases c3 with h|h|h
   ·have h1:(268435455:Int)<(M:Int):=by omega
    clear h b4 b3;go_wp2_with fail
    refine(HW.o _).mono ?_;rintro e w1 ⟨rfl,rfl⟩;go_wp2_with fail
    refine HM.o.mono ?_;rintro e w2 ⟨v',L',rfl,h1,h2,h3,h4,h5⟩;have HI:=vv (a8.o v' L' w2 h1 h2 h3 h4 h5);clear h1 h2 h3 h4 h5;go_wp2;go_roundw
    case rel=>exact HI.o
    case measure=>simp [intOf];omega
   ·have h1:(M:Int)<=268435455:=by omega
    have h2:((k:Int)==(s.size:Int)-1)=true:=by rw[beq_iff_eq];omega
    clear h b4 b3;go_wp2_with fail
    refine(HW.o _).mono ?_;rintro e w1 ⟨rfl,rfl⟩;go_wp2_with fail
    refine HM.o.mono ?_;rintro e w2 ⟨v',L',rfl,h1,h2,h3,h4,h5⟩;have HI:=vv (a8.o v' L' w2 h1 h2 h3 h4 h5);clear h1 h2 h3 h4 h5;go_wp2;go_roundw
    case rel=>exact HI.o
    case measure=>simp [intOf];omega
   ·have h1:(M:Int)<=268435455:=by omega
    have h2:((k:Int)==(s.size:Int)-1)=false:=by rw[beq_eq_false_iff_ne];omega
    have HI:=vv (b5.o h.1 h.2);clear h b4 b3;go_wp2_with fail
    refine(HW.o _).mono ?_;rintro e w1 ⟨rfl,rfl⟩;go_wp2;go_roundw
    case rel=>exact HI.o
    case measure=>simp [intOf];omega
  ·have c4:k=s.size:=by omega
   subst c4;have b6:=b0.o rfl;subst b6;have c5:C=0:=by omega
   subst c5;obtain⟨A,cap,rfl⟩:=q4T a0.o;have b9:=vv (qaC a0.o a1.o (by omega));go_wp2;go_ret2
   exact⟨A,L.length,cap,L,rfl,b9.o.1,by
    have:=a2.o;rw[HL.o,List.take_length,Nat.mul_one,Nat.add_zero] at this;exact this,a9,b9.o.2,HB.o⟩
theorem Hexs.high{s:ByteArray}{l:List Nat}(h:Hexs s l){k:Nat}(hk:k<=s.size):Hexs (s.extract 0 k) (l.take k):=by
 have:=h.cut (t:=s.extract 0 k) (a:=0) (b:=k) (by rw[q5V,List.drop_zero,List.drop_zero])
 rwa [List.drop_zero] at this
theorem Hexs.low{s:ByteArray}{l:List Nat}(h:Hexs s l){k:Nat}(hk:k<=s.size):Hexs (s.extract k s.size) (l.drop k):=by
 have:=h.cut (t:=s.extract k s.size) (a:=k) (b:=s.size-k) (by
  rw[q5V,List.drop_take])
 rwa [List.take_of_length_le (by rw[List.length_drop,<- h.len];omega)] at this
theorem q3z(n:Nat):∀(s:ByteArray) (l:List Nat) (w:World),s.size<=n->Hexs s l->s.size<=131072 ->
  Calls Tryz.prog 265 #[.string s,.int .i64 16] w (q5J (wv l) s.size w):=by
 induction n with
 | zero=>intro s l w hn h hs;exact q3H s l w h (by omega)
 | succ n ih =>
  intro s l w hn h hs;rcases Nat.lt_or_ge 300 s.size with hb|hb
  ·obtain⟨k,hk⟩:=yx (s.size/2);obtain⟨c,hc⟩:=yx (s.size-k);have hh:=h.high (k:=c) (by omega);have hl:=h.low (k:=c) (by omega);obtain⟨X,hX⟩:=yx (s.extract 0 c);obtain⟨Y,hY⟩:=yx (s.extract c s.size);rw[<- hX] at hh;rw[<- hY] at hl;have a8:X.size=c:=by rw[hX,ByteArray.size_extract];omega
   have a9:Y.size=k:=by rw[hY,ByteArray.size_extract];omega
   have HX:=vv fun w=>ih X (l.take c) w (by omega) hh (by omega)
   have HY:=vv fun w=>ih Y (l.drop c) w (by omega) hl (by omega)
   have HP:=vv fun w=>qbn k w (by omega)
   have HV:Hid (wv (l.take c)*16^k+wv (l.drop c)=wv l):=vv (by
    have:=q2X (l.take c) (l.drop c);rw[List.take_append_drop,List.length_drop,<- h.len] at this;rw[this,show s.size-c=k by omega])
   have HW:Hid (wv l<4294967296^s.size):=vv (Nat.lt_of_lt_of_le (wv_lt h.mem) (by rw[h.len];exact Nat.pow_le_pow_left (by decide) _));rw[a8] at HX;rw[a9] at HY;have e1:s.extract 0 c=X:=hX.symm;have e2:s.extract c s.size=Y:=hY.symm;have d7:(s.size:Int)/2=(k:Int):=by omega
   have d8:(s.size:Int)-(k:Int)=(c:Int):=by omega
   have d9:(s.size:Int)<=131072:=by omega
   have e0:(k:Int)<=65536:=by omega
   have e3:(c:Int)<=(s.size:Int):=by omega
   have e4:(300:Int)<(s.size:Int):=by omega
   clear hX hY a8 a9 hh hl hk hc hn h ih;go_enter Tryz.func265,Tryz.ntmps265
   go_wp2_with fail
   refine(HX.o _).mono ?_;rintro e w1 ⟨A1,m1,c1,x1,rfl,b0,b1,e5,c0,b2⟩;have a0:=vv b0;have c6:=vv b1;have c7:=vv b2;clear b0 b1 c0 b2;go_wp2_with fail
   refine(HY.o _).mono ?_;rintro e w2 ⟨A2,m2,c2,x2,rfl,b3,b4,e6,c8,a3⟩;have a0:=vv (a0.o.below a3 rfl);have a1:=vv b3;have c9:=vv b4;have d0:=vn c7 a3;clear b3 b4 c8 a3;go_wp2_with fail
   refine(HP.o _).mono ?_;rintro e w3 ⟨A3,m3,c3,rfl,a4,d1,a2⟩;have e7:=q1w _ (by omega) a4;have a0:=vv (a0.o.below a2 rfl);have a1:=vv (a1.o.below a2 rfl);have b5:=vv a4;have d2:=vn d0 a2;have HM:=vv (q2S A1 A3 m1 m3 c1 c3 _ _ w3 a0.o b5.o (by omega));clear a4 d1 a2;go_wp2_with fail
   refine HM.o.mono ?_;rintro e w4 ⟨A4,m4,c4,rfl,a5,d3,a6⟩;have e8:m4<=m1+m3:=a5.bound (by rw[Nat.pow_add];exact Nat.mul_lt_mul'' a0.o.lt b5.o.lt);have a1:=vv (a1.o.below a6 rfl);have b6:=vn d2 a6;have d4:=vv (q1Y A4 A2 m4 m2 c4 c2 _ _ w4 a5 a1.o (by omega) (by omega));clear a5 d3 a6;go_wp2_with fail
   refine d4.o.mono ?_;rintro e w5 ⟨A5,m5,c5,rfl,a7,b7,b8⟩;rw[q03,q03,c6.o,c9.o,HV.o] at a7;have b9:=vv a7;have d5:=vv (b7.mono b6.o.size);have d6:=vn b6 b8;clear a7 b7 b8;go_wp2;go_ret2
   exact⟨A5,m5,c5,_,rfl,b9.o,q03 _,b9.o.bound HW.o,d5.o,d6.o⟩
  ·exact q3H s l w h hb
theorem SetString(g o:Nat)(v:Int)(s:ByteArray)(l:List Nat)(w:World)(h:IntAt w g o v)(hh:Hexs s l)(h0:0<s.size)(hs:s.size<=131072):
  Calls Tryz.prog 229 #[.pointer (some ⟨g,o,none⟩),.string s,.int .i64 16] w fun e w'=>e=.returned (.tuple #[.pointer (some ⟨g,o,none⟩),.bool true])/\IntAt w' g o (wv l:Int)/\Fm g o w w':=by
 have HR:=vv fun w=>q3z s.size s l w lr hh hs
 have hf:=hh.at_ 0 h0;have a0:=hh.small 0;obtain⟨c,hc⟩:=yx ((s[0]).toNat);have a1:c≠45/\c≠43:=by
  rw[hc,hf];unfold fig;split<;>omega
 have t1:((c:Int)==45)=false:=by rw[beq_eq_false_iff_ne];omega
 have t2:((c:Int)==43)=false:=by rw[beq_eq_false_iff_ne];omega
 have a3:(s[0]).toNat=c:=hc.symm;have a4:(1:Int)<=(s.size:Int):=by omega
 have a5:(s.size:Int)<=131072:=by omega
 have a6:((0:Int)==(s.size:Int))=false:=by rw[beq_eq_false_iff_ne];omega
 have hx:s.extract 0 s.size=s:=ByteArray.extract_zero_size;have HI:=vv h;clear h hh hf a0 hc a1;go_enter Tryz.func229,Tryz.ntmps229
 go_wp2_with fail
 refine(HR.o _).mono ?_;rintro e w1 ⟨A,m,c',xs,rfl,hR,hv,hm,hF,hB⟩;have HB:=vv hB;have HS:=vv (qbm g o v (wv l:Int) false A m c' xs w1 (HI.o.below hB) hR (fun a e=>(hF a e).2) (by rw[Int.natAbs_natCast,hv]) (by rw[decide_eq_false (by omega)];rfl));clear hR hv hm hF hB;go_wp2_with fail
 refine HS.o.mono ?_;rintro e w2 ⟨rfl,hI,a2⟩;go_wp2;go_ret2
 exact⟨rfl,hI,(Fm.of_below HB.o HI.o.lt).trans a2⟩
theorem SetString_nil(g o:Nat)(w:World):
  Calls Tryz.prog 229 #[.pointer (some ⟨g,o,none⟩),.string ⟨#[]⟩,.int .i64 16] w fun e w'=>e=.returned (.tuple #[.pointer none,.bool false])/\w=w':=by
 go_enter Tryz.func229,Tryz.ntmps229
 go_wp2;go_ret2
 exact⟨rfl,rfl⟩
end Go.Proofs.YtcdimmblnbkjjaaGreatDoor.A
namespace Go.Proofs.YtcdimmblnbkjjaaGreatDoor.Pnt
open Go Go.RowKit R5
def qbE(N L:Nat)(w:World)(e:Ending)(w':World):Prop:=
 ∃V,e=.returned (.slice (some ⟨w.heap.size,0,none⟩) L L)/\Own w' w.heap.size 34 V/\V.length=L/\val V=N/\Below w.heap.size w w'
end Go.Proofs.YtcdimmblnbkjjaaGreatDoor.Pnt
namespace Go.Proofs.YtcdimmblnbkjjaaGreatDoor.Nat_
open Go Go.RowKit R5
theorem Parse(s:ByteArray)(w:World)(hd:q7L s)(h0:0<s.size)(h1:s.size<=65536):
  Calls Tryz.prog 48 #[.string s] w fun e w'=>∃A n,e=.returned (.tuple #[q4b A n n,.int .i64 0,.int .i64 0])/\Rd w' A n n (toL (dvk s s.size))/\Fr w.heap.size A/\Below w.heap.size w w':=by
 have HD:=vv hd;obtain⟨i0,hi,g9,i1,i2⟩:=info_parts Go.Proofs.YtcdimmblnbkjjaaGreatDoor.B.inf;have k5:(s.size:Int)<=65536:=by omega
 have H1:=vv h1;have d1:decide ((65536:Int)<(s.size:Int))=false:=decide_eq_false (by omega);have i3:=q1V h0;clear hd h1;go_enter Tryz.func48,Tryz.ntmps48
 go_wp2;go_loop [19] (fun t=>∃k:Nat,k<=s.size/\t=.int .i64 k) (fun t=>s.size-(intOf t).toNat)
 case atStart=>exact⟨0,Nat.zero_le _,rfl⟩
 case round =>
  obtain⟨k,hk,rfl⟩:=hrel;by_cases hks:k<s.size
  ·obtain⟨d1,d2⟩:=HD.o k hks;go_wp2;go_round
   case rel=>exact⟨k+1,by omega,by go_num⟩
   case measure=>simp [intOf];omega
  ·have d6:k=s.size:=by omega
   subst d6;clear hk hks;go_wp2;clear d1 i3;go_loopw [0,6] (fun v l wr=>∃(i:Nat) (t:ByteArray) (U:List Nat),i<=s.size/\v=.string t/\t.data.toList=s.data.toList.drop i/\wr.ownsRow (w.heap.size+1) 34 1 l U.length (q0w U)/\Lim U/\val U=dvk s i/\U.length<=i/\NatCell wr w.heap.size/\Below w.heap.size w wr) (fun v _ _=>match v with|.string t=>t.size|_=>0)
   case atStart=>exact⟨0,s,[],Nat.zero_le _,rfl,rfl,World.ownsRow_nil _ _ _ _,q11,rfl,lr,NatCell.made _ _,(Below.refl _ _).alloc lr _⟩
   case round =>
    obtain⟨i,t,U,k6,rfl,ht,a2,b7,hU,k7,a5,hB⟩:=hrel;have d7:t.size=s.size-i:=by rw[<- q0D,ht,List.length_drop,q0D]
    obtain⟨A,cap,rfl⟩:=q4T a2;have b8:=vv a2;have a6:=vv b7;have HU:=vv hU;have f4:=vv a5;have HB:=vv hB;have f5:=vv ht;have k8:(t.size:Int)<=65536:=by omega
    have k9:(U.length:Int)<=65536:=by omega
    have nl:=a5.lt;have l0:=vv d7;clear a2 b7 hU a5 hB ht;by_cases hgo:0<t.size
    ·obtain⟨j,hj⟩:=yx (min 9 t.size);have i4:j<=9:=by omega
     have l1:0<j:=by omega
     have l2:j<=t.size:=by omega
     have i5:min (9:Int) (t.size:Int)=(j:Int):=by omega
     have i6:min j t.size=j:=by omega
     obtain⟨C,hC⟩:∃C,t.extract 0 j=C:=⟨_,rfl⟩;obtain⟨T,hT⟩:∃T,t.extract j t.size=T:=⟨_,rfl⟩;have d8:C.data.toList=t.data.toList.take j:=by rw[<- hC,q5V,List.drop_zero]
     have d9:T.data.toList=s.data.toList.drop (i+j):=by
      rw[<- hT,q5V,List.take_of_length_le (by rw[q0D];exact lr),f5.o,List.drop_drop]
     have e0:C.size=j:=by rw[<- q0D,d8,List.length_take,q0D];omega
     have f6:T.size=t.size-j:=by rw[<- q0D,d9,List.length_drop,q0D];omega
     have f7:∀k (h:k<C.size),∃c:Nat,C[k].toNat=c/\48<=c/\c<=57/\dvm s i (k+1)=10*dvm s i k+(c-48):=by
      intro k h;have e2:i+k<s.size:=by omega
      have e1:C[k]=s[i+k]:=by
       have a1:C.data.toList[k]?=s.data.toList[i+k]?:=by
        rw[d8,List.getElem?_take,if_pos (by omega),f5.o,List.getElem?_drop]
       rw[List.getElem?_eq_getElem (by rw[q0D];exact h),List.getElem?_eq_getElem (by rw[q0D];exact e2)] at a1;exact Option.some.inj a1
      obtain⟨a,b⟩:=HD.o (i+k) e2;exact⟨_,rfl,by rw[e1];exact a,by rw[e1];exact b,by rw[e1];exact q5D s i k e2⟩
     have i7:=vv f7;have f8:=vv d9;have i8:=vv f6;obtain⟨cap2,w1,kc,a3,d0,i9⟩:=q6b wr C
     rw[e0] at kc;have b0:=vv a3;have f9:=vv e0;have b9:=vv (q6I b8.o d0 rfl);have e3:=vv (f4.o.below d0);have e4:=vn HB d0;have l3:wr.heap.size<w1.heap.size:=by omega
     have g0:i+j<=s.size:=by omega
     have c3:=vv g0;clear d8 d9 f6 f7 a3 d0 i9 hj g0 d7;have l4:(j:Int)<=9:=by omega
     go_wp2;clear i5 i6 hC hT kc e0;go_loop [8,9,53] (fun a b t=>∃k:Nat,k<=j/\a=.int .u64 (dvm s i k:Nat)/\b=.int .u64 (tn k:Nat)/\t=.int .i64 k) (fun _ _ t=>j-(intOf t).toNat)
     case atStart=>exact⟨0,Nat.zero_le _,rfl,rfl,rfl⟩
     case round =>
      obtain⟨k,hk,rfl,rfl,rfl⟩:=hrel;by_cases hkj:k<j
      ·obtain⟨c,hc,c1,c2,hS⟩:=i7.o k (by rw[f9.o];exact hkj);have a4:=b0.o k (by rw[f9.o];exact hkj);rw[hc] at a4;have m1:=q7m s HD.o i k (by have:=c3.o;omega);have m2:=q5o (j:=k) (by omega);have m3:((dvm s i k:Nat):Int)<=1000000000:=by omega
       have m4:((tn k:Nat):Int)<=1000000000:=by unfold tn;omega
       have HS:=vv hS;have j0:=vv (q9r k);clear m1 m2 hc hS;go_wp2;go_round
       case rel=>exact⟨k+1,by omega,congrArg _ (by rw[HS.o];omega),congrArg _ (by rw[j0.o];omega),by go_num⟩
       case measure=>simp [intOf];omega
      ·have e5:k=j:=by omega
       subst e5;clear hk hkj;have b4:dvm s i k<tn k:=by have:=q7m s HD.o i k c3.o;exact this
       have j1:((tn k:Nat):Int)<=1000000000:=by have:=q5o i4;unfold tn;omega
       obtain⟨P,hP⟩:=yx (tn k);obtain⟨y0,hy⟩:=yx (dvm s i k);rw[<- hP] at j1 b4 ⊢;rw[<- hy] at b4 ⊢;have j2:=vv (q3Z U a6.o b4);have HP:=vv hP;have HY:=vv hy;have e6:=vv (q7n s i k c3.o);clear hP hy b4;go_wp2;go_loopw [8,68] (fun y t wq=>∃(q:Nat) (L:List Nat),t=.int .i64 q/\q<=U.length/\y=.int .u64 (mS U P y0 q/4294967296^q:Nat)/\MulAt U L P y0 q/\wq.ownsRow (w.heap.size+1) 34 1 (.slice A U.length cap) U.length (q0w L)/\NatCell wq w.heap.size/\Below w.heap.size w wq) (fun _ t _=>U.length-(intOf t).toNat)
       case atStart=>exact⟨0,U,rfl,Nat.zero_le _,by rw[q4Z,Nat.pow_zero,Nat.div_one],MulAt.start a6.o P y0,b9.o,e3.o,e4.o⟩
       case round =>
        obtain⟨q,L,rfl,hq,rfl,hM,a2,a5,hB⟩:=hrel;have HM:=vv hM;have e7:=vv a2;have e8:=vv a5;have d3:=vv hB;have c4:=j2.o q;by_cases hqn:q<U.length
        ·obtain⟨g,cap',e,d4⟩:=q4m a2 (by omega);cases e
         obtain⟨r1,r2,r3,r4⟩:=q3V a2 hqn;rw[hM.high q lr] at r1;have c5:nth U q<4294967296:=q1D a6.o q;have hc:=q40 U P y0 q;obtain⟨Z,hZ⟩:=yx (mS U P y0 (q+1)/4294967296^q);obtain⟨y,b5⟩:=yx (mS U P y0 q/4294967296^q);obtain⟨v,hv⟩:=yx (nth U q);obtain⟨M,d5⟩:=yx (v*P);rw[<- hZ,<- b5,<- hv,<- d5] at hc;rw[<- hv] at r1 c5;rw[<- b5] at c4 ⊢;have g1:(v:Int)*(P:Int)=(M:Int):=by rw[d5,Int.natCast_mul]
         have j3:(y:Int)+(M:Int)=(Z:Int):=by omega
         have l5:(M:Int)<=4294967295000000000:=by
          have b1:v*P<=4294967295*1000000000:=Nat.mul_le_mul (by omega) (by omega);rw[<- d5] at b1;omega
         have l6:(v:Int)<=4294967295:=by omega
         have j4:(y:Int)<=1000000000:=by omega
         have l7:(Z:Int)<=4294967296000000000:=by omega
         have c6:=vv (hM.step hqn);have HZ:=vv hZ;have j5:Hid ((wr.setCell ⟨g,q,none⟩ (.int .u32 ((Z:Int)%4294967296))).ownsRow (w.heap.size+1) 34 1 (.slice (some ⟨g,0,none⟩) U.length cap) U.length (q0w (L.set q (Z%4294967296)))):=vv (by
          have:=q6G a2 q (Z%4294967296);rw[Int.natCast_emod] at this;exact this)
         have j6:=vv (a5.set (b:=g) (o:=q) (v:=.int .u32 ((Z:Int)%4294967296)) (by omega));have j7:=vv (hB.setCell (p:=⟨g,q,none⟩) (show w.heap.size<=g by omega) (.int .u32 ((Z:Int)%4294967296)));have l8:(q:Int)<(U.length:Int):=by omega
         clear hM a2 a5 hB c4 c5 hc hZ b5 hv d5;go_wp2;go_roundw
         case rel =>
          refine⟨q+1,L.set q (Z%4294967296),by go_num,by omega,congrArg _ ?_,?_,j5.o,j6.o,j7.o⟩
          ·rw[<- q73,<- HZ.o];omega
          ·rw[HZ.o];exact c6.o
         case measure=>simp [intOf];omega
        ·have j8:q=U.length:=by omega
         subst j8;obtain⟨S,hS⟩:=yx (dvk s (i+k));have b2:=HM.o.fin;have b3:=q74 U P y0;have eS:val U*P+y0=S:=by rw[hS,e6.o,HU.o,HP.o,HY.o];rfl
         rw[eS] at b2 b3;rw[b3] at c4 ⊢;have g2:=HM.o.len;have c7:=vv g2;have a7:=vv (Nat.div_add_mod S (4294967296^U.length));obtain⟨y,b5⟩:=yx (S/4294967296^U.length);rw[<- b5] at c4 a7 ⊢;rw[<- b2] at a7;have g3:=vv HM.o.lim;have HS:=vv hS;have j4:(y:Int)<=1000000000:=by omega
         clear b3 b2 eS b5 hS c4 g2;have c8:=vv (show T.size<t.size by rw[i8.o];omega);by_cases b4:0<y
         ·have l9:=vv (show U.length<=65536 by omega);clear hM a2 a5 hB;go_wp2_with (at_builtin;refine wpList_append_own _ rfl _ _ 26 rfl (w.heap.size+1) 34 i0 (.int .u32 0) 1 4 Tryz.underlying26 hi g9 i1 i2 rfl (by decide) _ U.length (q0w L) rfl (e7.o.alloc _) ⟨wr.heap.size,0,none⟩ 1 1 [.int .u32 (y:Int)] rfl rfl (cell_one_new _ _ _) (by simp [Value.oneCell']) (by unfold maxLen;omega) (by omega) (by have:=d3.o.size;simp;omega) ?_)
          intro v' w5 a8 a0 _;have a9:w5.ownsRow (w.heap.size+1) 34 1 v' (U.length+1) (q0w (L++[y])):=by
           have e:q0w (L++[y])=q0w L++[.int .u32 (y:Int)]:=by simp [q0w]
           rw[e];exact a8
          have d4:=e7.o.lt;have g4:Below w.heap.size w w5:=by
           have b6:Below w.heap.size w (wr.alloc (.cells #[.int .u32 (y:Int)] 34)):=d3.o.alloc d3.o.size _;exact⟨a0.os.trans b6.os,a0.tape.trans b6.tape,a0.output.trans b6.output,Nat.le_trans b6.size a0.size,fun i hi=>(a0.block i (Nat.lt_of_lt_of_le hi b6.size) (fun e=>by have:=(d4 i e.symm).1;omega)).trans (b6.block i hi)⟩
          have g5:NatCell w5 w.heap.size:=by
           have h0:=e8.o.lt;have h1:NatCell (wr.alloc (.cells #[.int .u32 (y:Int)] 34)) w.heap.size:=e8.o.below ((Below.refl wr.heap.size wr).alloc lr _);have e:=a0.block w.heap.size h1.lt (fun e=>by have:=(d4 _ e.symm).1;omega);exact⟨(World.cell?_of_block e).trans h1.c0,(World.frozen?_of_block e).trans h1.fz,Nat.lt_of_lt_of_le h1.lt a0.size⟩
          have j9:=vv a9;have e4:=vv g4;have k0:=vv g5;clear a8 a0 a9 g4 g5 d4;go_wp2;go_roundw
          case rel =>
           refine⟨i+k,T,L++[y],c3.o,rfl,f8.o,?_,q1Z.2 ⟨g3.o,q0B.2 ⟨by omega,q11⟩⟩,?_,?_,k0.o,e4.o⟩
           ·rw[List.length_append,c7.o];exact j9.o
           ·rw[q2O,c7.o,Nat.add_comm,<- HS.o];exact a7.o
           ·rw[List.length_append,c7.o];show U.length+1<=i+k;omega
          case measure=>exact c8.o
         ·have k1:y=0:=by omega
          subst k1;clear b4 hM a2 a5 hB;go_wp2;go_roundw
          case rel =>
           refine⟨i+k,T,L,c3.o,rfl,f8.o,by rw[c7.o];exact e7.o,g3.o,?_,by rw[c7.o];omega,e8.o,d3.o⟩;have:=a7.o;rw[Nat.mul_zero,Nat.zero_add] at this;rw[this];exact HS.o
          case measure=>exact c8.o
    ·have k2:i=s.size:=by omega
     subst k2;clear d7;obtain⟨A',c',e,g6,g7⟩:=q6K b8.o a6.o (by omega);cases e
     have k3:wr.heap.size=wr.heap.size:=rfl;go_wp2_with fail
     refine(q6t A U.length cap U _ g6).mono ?_;rintro e w2 ⟨A2,n2,rfl,e9,g8,f0⟩;rw[HU.o] at e9;have c9:Hid (Fr (w.heap.size+1) A2):=vv (fun a e=>g7 a (g8 a e));have f1:=vv (f4.o.below f0);have k4:=vn HB f0;have c0:=f1.o.c0;have fz:=f1.o.fz;have lt:=f1.o.lt;have f2:Hid (Rd (w2.setCell ⟨w.heap.size,0,none⟩ (.slice A2 n2 n2)) A2 n2 n2 (toL (dvk s s.size))):=vv (e9.other _ _ _ (fun a e=>by have:=(c9.o a e).1;omega));have f3:=vv (k4.o.setCell (p:=⟨w.heap.size,0,none⟩) lr (.slice A2 n2 n2));have a4:(w2.setCell ⟨w.heap.size,0,none⟩ (.slice A2 n2 n2)).cell? ⟨w.heap.size,0,none⟩=some (.slice A2 n2 n2):=q0u c0;clear f0 e9 g8 g6 g7 k3;go_wp2;exact bodyPost_ret (v:=.tuple #[q4b A2 n2 n2,.int .i64 0,.int .i64 0]) (by simp [results,Tryz.results48,go_sem,a4]) rfl ⟨A2,n2,rfl,f2.o,c9.o.mono (by omega),f3.o⟩
end Go.Proofs.YtcdimmblnbkjjaaGreatDoor.Nat_
