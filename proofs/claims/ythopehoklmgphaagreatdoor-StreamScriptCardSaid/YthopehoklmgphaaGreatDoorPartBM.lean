/- Lemmas. -/
import Derived.Test.YthopehoklmgphaaGreatDoorPartBL
set_option linter.all false
set_option maxHeartbeats 2000000
set_option maxRecDepth 100000
open Go.Proofs.Tryz
open Go renaming World.grownBy.refl->qa,World->qe,Value->qf,RowKit.Below.refl->qh,bodyPost_ret->qi,IntKind.wrap_i64->qj,IntKind.wrap_u32->qk,Calls->ql
open Option renaming none->qb,some->qc
open Go.Proofs.Tryz renaming prog->qd
open Bool renaming false->qg
namespace Go.Proofs.YthopehoklmgphaaGreatDoor
variable{w w':qe}{L:List Nat}{k g:Nat}{t:TypeId}{cs:List qf}
namespace Scn
open Go Go.RowKit
theorem q4h(s:St)(p:List UInt8):-68719476736<=(s.exponent p).1/\(s.exponent p).1<=68719476736:=by
 unfold St.exponent;split
 ·have:=q9B ((s.skip p.length).minus.2.must ten).1 0 (by decide);dsimp only;split<;>omega
 ·constructor<;>(dsimp only;decide)
def txt(U:List Nat):ByteArray:=⟨(U.map UInt8.ofNat).toArray⟩
theorem q2H{base n:Nat}{v:qf}{U:List Nat}(h:w.ownsRow base 5 1 v n (u8s U))(hU:∀x∈U,x<256):(convert 56 9 v).run qd w=.ok (.string (txt U)) w:=by
 have b:=qap h;obtain⟨m,d⟩:=h;rcases d with ⟨rfl,rfl⟩|⟨g,cap,l,rfl,o,f,p,q,r,i⟩
 ·have:U=[]:=k0s b;subst this;exact run_convert_bytes_nil w 56 5 underlying56 underlying5 0 0 _ underlying9
 ·have e:=run_convert_bytes_back (P:=qd) w 56 9 5 ⟨g,0,qb⟩ cap (U.map UInt8.ofNat) underlying56 underlying5 underlying9 (fun j hj=>by
   have a:j<U.length:=by simpa using hj
   have k:Addr.add ⟨g,0,qb⟩ j=⟨g,j,qb⟩:=by cases j with|zero=>rfl|succ j=>simp [Addr.add]
   have c:(u8s U)[j]?=qc (.int .u8 ((U[j]:Nat):Int)):=by simp [u8s,k0n a]
   have hx:=hU _ (k1D a);rw[<- i,k15,if_pos (by omega)] at c;rw[k];simp only[World.cell?,f];rw[List.getElem_map];have:(UInt8.ofNat U[j]).toNat=U[j]:=by rw[UInt8.toNat_ofNat'];exact k0F hx
   rw[this]
   simpa using c)
  rw[k1l,b] at e;exact e
def numV(x:Num)(A:Option Addr)(m c:Nat):qf:=
 .agg #[.int .u8 (x.kind:Int),.bool x.neg,.bool x.dneg,.string ⟨x.digits.toArray⟩,.int .i64 x.exp,.bool x.hneg,.slice A m c,.int .i64 x.hexp,.int .u64 (x.payload:Int)]
def qeq(b:Nat)(x:Num)(u:St)(w:qe)(e:Ending)(w':qe):Prop:=
 ∃A m c,e=.returned (numV x A m c)/\Rd w' A m c (toL x.mant)/\Fr w.heap.size A/\ScAt w' b u/\w.grownBy w' (qc b)
def qbw(L:List Nat)(k:Nat):List Nat:=(L.take k).map (·+48)++L.drop k
theorem qaY(L:List Nat):qbw L L.length=L.map (·+48):=by unfold qbw;rw[k1m,List.drop_length,k23]
theorem qaX(L:List Nat)(k:Nat)(h:k<L.length):nth (qbw L k) k=nth L k:=by unfold qbw nth;rw[k08,k08,k2C (by simp;omega),k1l,k0l,k0K (by omega),k2B,k1u,k0S]
theorem qaW(L:List Nat)(k:Nat)(h:k<L.length):(qbw L k).set k (nth L k+48)=qbw L (k+1):=by unfold qbw;rw[q2G L k h,List.map_append,List.map_singleton,List.set_append_right _ _ (by simp;omega),k1l,k0l,k0K (by omega),k2B,List.append_assoc];congr 1;rw[<- List.getElem_cons_drop h];rfl
theorem q5m(h:k<L.length):nth L k∈L:=by unfold nth;rw[k08,k0n h];exact k1D h
def Blk(w:qe)(g:Nat)(t:TypeId)(cs:List qf):Prop:=w.heap[g]?=qc (.cells cs.toArray t (0,0))
theorem Blk.cell(h:Blk w g t cs)(j:Nat):w.cell? ⟨g,j,qb⟩=cs[j]?:=by simp only[World.cell?];rw[show w.heap[g]?=_ from h];simp
theorem Blk.fz(h:Blk w g t cs)(j:Nat):w.frozen? ⟨g,j,qb⟩=qg:=by simp only[World.frozen?];rw[show w.heap[g]?=_ from h];simp
theorem Blk.lt(h:Blk w g t cs):g<w.heap.size:=(k09.1 (show w.heap[g]?=_ from h)).1
theorem Blk.made(w:qe)(t:TypeId)(cs:List qf):Blk (w.alloc (.cells cs.toArray t)) w.heap.size t cs:=heap_alloc_new w _
theorem Blk.grown(h:Blk w g t cs){row:Option Nat}(hb:w.grownBy w' row)(hr:row≠qc g):Blk w' g t cs:=(hb.block g h.lt (fun e=>hr e.symm)).trans h
theorem Blk.below(h:Blk w g t cs)(hb:Below w.heap.size w w'):Blk w' g t cs:=(hb.block g h.lt).trans h
theorem Blk.other(h:Blk w g t cs){p:Addr}(hp:p.block≠g)(v:qf):Blk (w.setCell p v) g t cs:=(Below.heap_setCell w p v g (fun e=>hp e.symm)).trans h
theorem q05{P:Program}{ops:Array Oper}{rest:List Oper}{o:Oper}{a:Act}{Q:Exit->Act->qe->Prop}(hgd:o.guard=qb)(ty:TypeId)(x y:Operand)(ho:o.op=.store ty x y)
  (g:Nat) (cells:List qf) (hx:a.eval x=.pointer (qc ⟨g,0,qb⟩)) (hy:a.eval y=.agg cells.toArray)
  (t:TypeId) (old:List qf) (hg:Blk w g t old) (hi:(P.info? ty).map (·.size)=qc cells.length)
  (hold:old.length=cells.length) (h1:cells.all (·.oneCell')=true)
  (h:∀w',Blk w' g t cells->w.grownBy w' (qc g)->wpList P ops Q rest (a.put o.dst undef) w'):wpList P ops Q (o::rest) a w:=by
 refine wpList_store_row hgd ty x y ho g cells.toArray hx hy t old.toArray hg (by simpa using hi) (by simpa using hold) (by simpa using h1) (h _ (setRow_heap w g _ _ t _ hg) ⟨rfl,rfl,rfl,by simp [World.setRow],fun i hi b=>?_⟩);unfold World.setRow;rw[k1S,if_neg (fun e=>b (by rw[e]))]
def q1o:List qf:=[.int .u8 0,.bool qg,.bool qg,.string ⟨#[]⟩,.int .i64 0,.bool qg,.slice qb 0 0,.int .i64 0,.int .u64 0]
theorem Blk.num{v0 v1 v2 v3 v4 v5 v6 v7 v8:qf}(h:Blk w g t [v0,v1,v2,v3,v4,v5,v6,v7,v8]):w.cell? ⟨g,0,qb⟩=qc v0/\w.cell? ⟨g,1,qb⟩=qc v1/\w.cell? ⟨g,2,qb⟩=qc v2/\w.cell? ⟨g,3,qb⟩=qc v3/\w.cell? ⟨g,4,qb⟩=qc v4/\w.cell? ⟨g,5,qb⟩=qc v5/\w.cell? ⟨g,6,qb⟩=qc v6/\w.cell? ⟨g,7,qb⟩=qc v7/\w.cell? ⟨g,8,qb⟩=qc v8:=⟨h.cell 0,h.cell 1,h.cell 2,h.cell 3,h.cell 4,h.cell 5,h.cell 6,h.cell 7,h.cell 8⟩
def qbH(b:Nat)(L:List Nat)(v:St)(x:qf)(B:Nat)(w:qe)(i:qf)(wr:qe):Prop:=
 ∃q:Nat,q<=L.length/\i=.int .i64 (q:Int)/\wr.ownsRow B 5 1 x L.length (u8s (qbw L q))/\ScAt wr b v/\w.grownBy wr (qc b)/\Blk wr w.heap.size 92 q1o/\B<=wr.heap.size
theorem decimal(b:Nat)(s:St)(neg:Bool)(w:qe)(h:ScAt w b s)(hg:Bg w):ql qd 115 #[.pointer (qc ⟨b,0,qb⟩),.bool neg] w (qeq b (s.decimal neg).1 (s.decimal neg).2 w):=by
 obtain⟨L,k,u,Q⟩:∃L k u,s.mantissa ten=(L,k,u):=⟨_,_,_,rfl⟩;obtain⟨x,v,hx⟩:∃x v,u.exponent [101]=(x,v):=⟨_,_,rfl⟩;have I:=q4h u [101];rw[hx] at I
 try dsimp only at I
 obtain⟨T,R⟩:=yx ((L.map fun d=>UInt8.ofNat (d+48)).dropWhile (·==48));obtain⟨S,U⟩:=yx ((T.reverse.dropWhile (·==48)).reverse);have HE:Hid (s.decimal neg=(⟨1,neg,neg,S,if S=[] then 0 else q2u (x-k+T.length-S.length),qg,0,0,0⟩,v)):=vv (by unfold St.decimal;rw[Q];dsimp only;rw[hx,<- R,<- U]);obtain⟨m,J⟩:∃m:ByteArray,m=⟨T.toArray⟩:=⟨_,rfl⟩;obtain⟨f,K⟩:∃f:ByteArray,f=⟨S.toArray⟩:=⟨_,rfl⟩;have W:m.size=T.length:=by rw[J];exact k21 ..
 have b1:f.size=S.length:=by rw[K];exact k21 ..
 have b2:Hid (∀w,ql qd 184 #[.string (txt (L.map (·+48))),.string ⟨#[48]⟩] w fun e r=>e=.returned (.string m)/\r=w):=vv fun w=>by
  have:=Tryz.strings_TrimLeft_one (txt (L.map (·+48))) 48 (by decide) w;have e:Lib.trimLeftB (txt (L.map (·+48))).data.toList 48=T:=by rw[R];unfold Lib.trimLeftB txt;simp only[List.map_map];rfl
  rwa [e,<- J] at this
 have b3:Hid (∀w,T.length<=131072->ql qd 185 #[.string m,.string ⟨#[48]⟩] w fun e r=>e=.returned (.string f)/\r=w):=vv fun w hl=>by
  have:=Tryz.strings_TrimRight_one m 48 (by decide) w (by rw[W];omega);have e:Lib.trimRightB m.data.toList 48=S:=by rw[U,J];rfl
  rwa [e,<- K] at this
 have c3:Hid (T.length<=L.length/\S.length<=T.length):=vv (by
  refine⟨?_,?_⟩
  ·rw[R];have:=(k2a (fun(c:UInt8)=>c==48) (l:=L.map fun d=>UInt8.ofNat (d+48))).length_le
   rwa [k1l] at this
  ·rw[U,k24];have:=(k2a (fun(c:UInt8)=>c==48) (l:=T.reverse)).length_le
   rwa [k24] at this)
 have HX:=vv I;have HM:=vv Q;have d9:=vv hx;have HH:=vv h;have HG:=vv hg;have HL:=vv h.lt;have M:=vv fun w h hg=>mantissa 112 ten q7a b s w h hg
 rw[Q] at M;replace M:Hid (∀w,ScAt w b s->Bg w->ql qd 176 #[.pointer (qc ⟨b,0,qb⟩),.func (.func 112) #[] #[]] w (q2m b L k u w)):=M;have N:=vv fun w h hg=>exponent b u ⟨#[101]⟩ w h hg (by decide)
 rw[show(⟨#[101]⟩:ByteArray).data.toList=[101] from rfl,hx] at N;replace N:Hid (∀w,ScAt w b u->Bg w->ql qd 178 #[.pointer (qc ⟨b,0,qb⟩),.string ⟨#[101]⟩] w (ScP b v (.int .i64 x) w)):=N;have C:=vv (And.intro W b1);have c4:=vv K;clear Q hx I R U h hg W b1 J K;go_enter func115,ntmps115;go_wp2_with fail;obtain⟨z,D⟩:=yx (w.alloc (.cells #[.int .u8 0,.bool qg,.bool qg,.string ⟨#[]⟩,.int .i64 0,.bool qg,.slice qb 0 0,.int .i64 0,.int .u64 0] 92));rw[<- D];have X:w.grownBy z (qc b):=by rw[D];exact q0x (qa w _) _
 have c5:Hid (Blk z w.heap.size 92 q1o):=vv (by rw[D];exact Blk.made w _ q1o);have a1:ScAt z b s:=HH.o.grown (row:=qb) (by rw[D];exact q0x (qa w _) _) (fun k e=>by cases e);have Y:Hid (z.heap.size=w.heap.size+1):=vv (by rw[D];simp);have c6:=vv X;have Z:b≠w.heap.size:=by have:=HL.o;omega
 have O:=vv Z;have c7:=vv (M.o z a1 (HG.o.grown X HH.o));clear X a1 D Z;refine c7.o.mono ?_;rintro e w1 ⟨y,rfl,j,n,a,e0,hk,b4⟩;have a2:=vv j;have c8:=vv (c5.o.grown a (fun e=>O.o (by injection e)));have b5:=vv (q00 c6.o a);have b6:=vv b4;have c9:=vv (N.o w1 n (HG.o.grown b5.o HH.o));have e1:=a.size;clear j n a b4;go_wp2_with fail;refine c9.o.mono ?_;rintro e w2 ⟨rfl,n,a⟩;obtain⟨A,cap,hy⟩:=q0E a2.o;subst hy;have d6:=HX.o.1;have d7:=HX.o.2;have e2:(k:Int)<=65536:=by omega
 have e3:(L.length:Int)<=131072:=by omega
 have e4:=a.size;have b7:Hid (qbH b L v (.slice A L.length cap) z.heap.size w (.int .i64 0) w2):=vv ⟨0,k0d _,rfl,q0s a2.o a (by have:=Y.o;have:=HL.o;omega),n,q00 b5.o a,c8.o.grown a (fun e=>O.o (by injection e)),by omega⟩;clear n a;go_wp2;go_loopw [23] (fun i wr=>qbH b L v (.slice A L.length cap) z.heap.size w i wr) (fun i _=>L.length-(intOf i).toNat)
 case atStart=>exact b7.o
 case round =>
  clear b7;obtain⟨q,hq,rfl,j,n,a,hR,b8⟩:=hrel;have V:=vv hR;have e5:=vv j;have a3:=vv n;have a4:=vv a;have e6:=vv b8;clear n a hR b8;by_cases hql:q<L.length
  ·obtain⟨g,d8,e,e7⟩:=q26 j (by omega);cases e;obtain⟨r1,r2,r3,r4⟩:=q27 j hql;rw[qaX L q hql] at r1;have a9:nth L q<16:=b6.o _ (q5m hql);obtain⟨d,E⟩:=yx (nth L q);have e8:(d:Int)<=15:=by omega
   have HS:=vv (q71 j q (d+48));rw[E,qaW L q hql,<- E,k0X] at HS;rw[<- E] at r1;have e9:(q:Int)<(L.length:Int):=by omega
   have a0:g≠b/\g≠w.heap.size:=by have:=Y.o;have:=HL.o;omega
   have F:=q09 (qa wr (qc g)) (p:=⟨g,q,qb⟩) (.inl rfl) (.int .u8 ((d:Int)+48));have b0:=vv (a3.o.grown F (fun k e=>by cases e;exact a0.1));have d0:=vv (V.o.grown F (fun e=>a0.2 (by injection e)));have d1:=vv (q0e a4.o F (fun k e=>by cases e;have:=Y.o;omega));have f0:=F.size;clear j E a9 F a0;go_wp2;go_roundw
   case rel=>exact⟨q+1,by omega,by go_num,HS.o,b0.o,d1.o,d0.o,by omega⟩
   case measure=>simp [intOf];omega
  ·have d2:q=L.length:=by omega
   subst d2;rw[qaY] at j;have c2:=q2H j (fun y hy=>by obtain⟨d,E,rfl⟩:=List.mem_map.1 hy;have:=b6.o d E;omega);have d3:=c3.o;have f1:(m.size:Int)<=131072:=by rw[C.o.1];omega
   have f2:(f.size:Int)<=131072:=by rw[C.o.2];omega
   have f3:=V.o.lt;have b9:Hid (T.length<=131072):=vv (by omega);clear j d3;by_cases hz:f.size=0
   ·obtain rfl:f=⟨#[]⟩:=ByteArray.ext (k1e hz);have a5:S=[]:=k0s (by rw[<- C.o.2];rfl);have P:Hid (s.decimal neg=(⟨1,neg,neg,S,0,qg,0,0,0⟩,v)):=vv (by rw[HE.o,if_pos a5]);have d4:=vv a5;clear hz a5;go_wp2_with fail;refine(b2.o _).mono ?_;rintro e r ⟨rfl,rfl⟩;go_wp2_with fail;refine(b3.o _ b9.o).mono ?_;rintro e r ⟨rfl,rfl⟩;go_wp2_with (with_reducible refine q05 rfl 92 (.tmp 4) (.tmp 54) rfl w.heap.size [.int .u8 1,.bool neg,.bool neg,.string ⟨#[]⟩,.int .i64 0,.bool qg,.slice qb 0 0,.int .i64 0,.int .u64 0] rfl rfl 92 q1o (V.o.below ((qh _ _).alloc lr _)) (by kernel_rfl) rfl rfl ?_);intro w8 H G;have t:=q00 (q0x (qa _ (qc w.heap.size)) _) G;have a6:=vv (a3.o.grown t (fun k e=>by cases e;exact fun e=>O.o e.symm));have a7:=vv (q0e a4.o t (fun k e=>by cases e;exact lr));have a8:=vv H;clear H G t;go_wp2;obtain⟨k0,k1,k2,k3,k4,k5,k6,k7,k8⟩:=a8.o.num;rw[P.o];exact qi (v:=numV ⟨1,neg,neg,S,0,qg,0,0,0⟩ qb 0 0) (by simp [results,results115,go_sem,k0,k1,k2,k3,k4,k5,k6,k7,k8,numV,d4.o]) rfl ⟨qb,0,0,rfl,Rd.nil _,Fr.none_ _,a6.o,a7.o⟩
   ·have Z:=q1R (s:=f) (by omega);have P:Hid (s.decimal neg=(⟨1,neg,neg,S,q2u (x-(k:Int)+(m.size:Int)-(f.size:Int)),qg,0,0,0⟩,v)):=vv (by rw[HE.o,if_neg (fun e=>hz (by rw[C.o.2,e];rfl)),C.o.1,C.o.2]);obtain⟨cl,c0⟩:=yx (q2u (x-(k:Int)+(m.size:Int)-(f.size:Int)));have c1:=vv fun w=>qdK (x-(k:Int)+(m.size:Int)-(f.size:Int)) w
    rw[<- c0] at P c1;have d5:=vv c4.o;clear hz c0;go_wp2_with fail;refine(b2.o _).mono ?_;rintro e r ⟨rfl,rfl⟩;go_wp2_with fail;refine(b3.o _ b9.o).mono ?_;rintro e r ⟨rfl,rfl⟩;go_wp2_with fail;refine(c1.o _).mono ?_;rintro e r ⟨rfl,rfl⟩;go_wp2_with (with_reducible refine q05 rfl 92 (.tmp 4) (.tmp 54) rfl w.heap.size [.int .u8 1,.bool neg,.bool neg,.string f,.int .i64 cl,.bool qg,.slice qb 0 0,.int .i64 0,.int .u64 0] rfl rfl 92 q1o (V.o.below ((qh _ _).alloc lr _)) (by kernel_rfl) rfl rfl ?_);intro w8 H G;have t:=q00 (q0x (qa _ (qc w.heap.size)) _) G;have a6:=vv (a3.o.grown t (fun k e=>by cases e;exact fun e=>O.o e.symm));have a7:=vv (q0e a4.o t (fun k e=>by cases e;exact lr));have a8:=vv H;clear H G t;go_wp2;obtain⟨k0,k1,k2,k3,k4,k5,k6,k7,k8⟩:=a8.o.num;rw[P.o];exact qi (v:=numV ⟨1,neg,neg,S,cl,qg,0,0,0⟩ qb 0 0) (by simp [results,results115,go_sem,k0,k1,k2,k3,k4,k5,k6,k7,k8,numV,d5.o]) rfl ⟨qb,0,0,rfl,Rd.nil _,Fr.none_ _,a6.o,a7.o⟩
end Scn
namespace Lx
open Go Go.Proofs.YthopehoklmgphaaGreatDoor Scn
def led(L:List Nat):List Nat:=L.dropWhile (·==0)
def cut(T:List Nat):List Nat:=(T.reverse.dropWhile (·==0)).reverse
theorem nth_at(L:List Nat)(k:Nat)(h:k<L.length):nth L k=L[k]:=by unfold nth;rw[k08,k0n h];rfl
theorem led_step(L:List Nat)(k:Nat)(h:k<L.length)(h0:nth L k=0):led (L.drop k)=led (L.drop (k+1)):=by rw[nth_at L k h] at h0;unfold led;rw[k1A h,h0];rfl
theorem led_end(L:List Nat)(k:Nat)(h:k<L.length)(h0:nth L k≠0):led (L.drop k)=L.drop k:=by rw[nth_at L k h] at h0;unfold led;rw[k1A h,List.dropWhile_cons_of_neg (by simpa using h0)]
theorem led_none(L:List Nat):led (L.drop L.length)=[]:=by rw[List.drop_length];rfl
theorem q5b(T:List Nat)(j:Nat)(h:j<T.length):(T.take (j+1)).reverse=T[j]::(T.take j).reverse:=by rw[k0E h,List.reverse_append];rfl
theorem cut_step(T:List Nat)(j:Nat)(h:j<T.length)(h0:nth T j=0):cut (T.take (j+1))=cut (T.take j):=by rw[nth_at T j h] at h0;unfold cut;rw[q5b T j h,h0];rfl
theorem cut_end(T:List Nat)(j:Nat)(h:j<T.length)(h0:nth T j≠0):cut (T.take (j+1))=T.take (j+1):=by rw[nth_at T j h] at h0;unfold cut;rw[q5b T j h,List.dropWhile_cons_of_neg (by simpa using h0),<- q5b T j h,List.reverse_reverse]
theorem cut_none(T:List Nat):cut (T.take 0)=[]:=by rw[k2F];rfl
theorem qch(L:List Nat):(led L).length<=L.length:=(k2a (fun x:Nat=>x==0) (l:=L)).length_le
theorem qcz(T:List Nat):(cut T).length<=T.length:=by
 unfold cut;rw[k24];have:=(k2a (fun x:Nat=>x==0) (l:=T.reverse)).length_le
 rwa [k24] at this
theorem row_figs{V S:List Nat}{j:Nat}(hV:V.length=j)(hS:S.length=j)(h:∀p,p<j->nth V p=nth S p+48):V=S.map (·+48):=by apply List.ext_getElem (by rw[k1l];omega);intro i a b;have e:=h i (by omega);rw[nth_at V i a,nth_at S i (by omega)] at e;rw[e,List.getElem_map]
def decT(L:List Nat):List Nat:=led L
def decS(L:List Nat):List Nat:=cut (led L)
def decV(neg:Bool)(L:List Nat)(x:Int):qf:=
 if decS L=[] then .agg #[.bool neg,.string ⟨#[]⟩,.int .i64 0]
 else .agg #[.bool neg,.string (txt ((decS L).map (·+48))),.int .i64 (q2u (x+(((decT L).length-(decS L).length:Nat):Int)))]
theorem qac(S:List Nat):(txt (S.map (·+48)))=(⟨((S.map fun d=>UInt8.ofNat (d+48))).toArray⟩:ByteArray):=by unfold txt;rw[List.map_map];rfl
theorem decV_same(neg:Bool)(L:List Nat)(k:Nat)(P E:Int)(h:∀z:Int,-1048576<=z->z<=1048576->q2u (P+z)=q2u (E+z))(hL:L.length<=131072)(hk:k<=65536):decV neg L (P-(k:Int))=.agg #[.bool neg,.string (⟨((decS L).map (fun d=>UInt8.ofNat (d+48))).toArray⟩:ByteArray),.int .i64 (if decS L=[] then 0 else q2u (E-k+(((decT L).length-(decS L).length:Nat):Int)))]:=by
 unfold decV;by_cases h0:decS L=[]
 ·rw[if_pos h0,if_pos h0,h0];rfl
 ·rw[if_neg h0,if_neg h0,qac];have a:(decT L).length<=L.length:=qch L;have e:=h (-(k:Int)+(((decT L).length-(decS L).length:Nat):Int)) (by omega) (by omega);rw[show P-(k:Int)+(((decT L).length-(decS L).length:Nat):Int)=P+(-(k:Int)+(((decT L).length-(decS L).length:Nat):Int)) by omega,e,show E+(-(k:Int)+(((decT L).length-(decS L).length:Nat):Int))=E-(k:Int)+(((decT L).length-(decS L).length:Nat):Int) by omega]
theorem spec_dec(v:St)(neg:Bool){u:St}{x:Int}{u2:St}(hm:v.mantissa ten=(L,k,u))(hx:u.exponent [101]=(x,u2))(h10:∀d∈L,d<16):v.decimal neg=(⟨1,neg,neg,(decS L).map (fun d=>UInt8.ofNat (d+48)),if decS L=[] then 0 else q2u (x-k+(((decT L).length-(decS L).length:Nat):Int)),qg,0,0,0⟩,u2):=by
 obtain⟨b,a⟩:=q7F L h10;have c:(qbY L).1=decS L:=rfl;rw[c] at a;have e:(decS L).length<=(decT L).length:=qcz _;unfold St.decimal;rw[hm];dsimp only;rw[hx];dsimp only;rw[a,b,k1l,k1l];congr 2;by_cases h:decS L=[]
 ·rw[if_pos h,if_pos (by rw[h];rfl)]
 ·rw[if_neg h,if_neg (by simpa using h)];congr 1;show x-(k:Int)+((decT L).length:Int)-((decS L).length:Int)=_;omega
end Lx
namespace Scn
open Go Go.RowKit R5 Rtp
theorem qaI(g o:Nat)(u:Int)(w:qe)(h:IntAt w g o u)(sN:bl u.natAbs<=4294967296):ql qd 182 #[.pointer (qc ⟨g,o,qb⟩)] w fun e w'=>∃A n,e=.returned (q4w A n n)/\Rd w' A n n (toL u.natAbs)/\Fr w.heap.size A/\Below w.heap.size w w':=by
 obtain⟨M,y⟩:=yx (w.alloc (.cells #[.slice qb 0 0] 88));have O:Below w.heap.size w M:=by rw[y];exact(qh _ w).alloc lr _
 have c0:NatCell M w.heap.size:=by rw[y];exact NatCell.made _ _
 have X:=vv (A.Bytes g o u M (h.below O) sN);have Y:=vv (q3O u.natAbs);obtain⟨N,hN⟩:=yx (u.natAbs);rw[<- hN] at X Y sN ⊢;have b3:=vv y;have Z:=vv O;have b4:=vv c0;have b5:=vv sN;clear h y O c0 sN hN;go_enter func182,ntmps182;go_wp2_with fail;rw[<- b3.o];refine X.o.mono ?_;rintro e a ⟨B,m,rfl,hm,a2,H⟩;have a3:=vv a2;have b6:=vv H;have a4:=vv (b4.o.below H);have I:Hid (w.heap.size<a.heap.size):=vv a4.o.lt;obtain⟨L,P⟩:=yx ((m+3)/4);have b7:Hid (L=words N):=vv (by rw[P,hm];exact Y.o);have d3:m<=4294967296:=by have:=b5.o;omega
 have a5:L<=35184372088832:=by omega
 have d4:(L:Int)<=35184372088832:=by omega
 have b8:((m:Int)+3)/4=(L:Int):=by omega
 have d5:(m:Int)<=4294967296:=by omega
 have d6:=AB.mk L a5;have HL:=vv P;have H1:Hid (Own (a.alloc (.cells (madeCells #[.int .u32 0] L) 197)) a.heap.size 197 (List.replicate L 0)):=vv (Own.made a L 197);have H3:Hid (Below a.heap.size a (a.alloc (.cells (madeCells #[.int .u32 0] L) 197))):=vv ((qh _ a).alloc lr _);clear a2 H P hm;go_wp2;clear b8;go_loopw [17] (fun t wr=>∃(i:Nat) (W:List Nat),t=.int .i64 i/\i<=m/\Own wr a.heap.size 197 W/\W.length=L/\val W=hi N (m-i)/\Below a.heap.size a wr) (fun t _=>m-(intOf t).toNat)
 case atStart=>exact⟨0,List.replicate L 0,rfl,k0d _,H1.o,k0Y,by rw[q0m,Nat.sub_zero,q9h a3.o.lt],H3.o⟩
 case round =>
  obtain⟨i,W,rfl,b9,c,z,f,l⟩:=hrel;have a0:=vv c;have a6:=vv z;have HB:=vv l;by_cases him:i<m
  ·obtain⟨k,Q⟩:=yx (m-1-i);have a7:val W=hi N (k+1):=by rw[f];congr 1;omega
   have d7:(m:Int)-1-(i:Int)=(k:Int):=by omega
   obtain⟨b,off,e,a8,a9⟩:=a3.o.cell (by omega);subst e;have b1:=(l.cell (p:=⟨b,off+i,qb⟩) a8).trans (a9 i him);rw[<- Q] at b1;obtain⟨q,hq⟩:=yx (k/4);have d8:q<L:=by have:=HL.o;omega
   have J:q<W.length:=by omega
   have d9:(k:Int)/4=(q:Int):=by omega
   have d0:(k:Int)<=4294967296:=by omega
   have d1:(q:Int)<(L:Int):=by omega
   obtain⟨r,hr⟩:=yx (k%4);have e0:(k:Int).tmod 4=(r:Int):=by rw[k2b (by omega)];omega
   have e1:IntKind.i64.wrap (q:Int)=(q:Int):=by rw[qj];omega
   have e3:(0:Int)<=(q:Int):=by omega
   obtain⟨s1,F,R,G⟩:=q4p c.2 J (show k=4*q+r by omega) (by omega) a7;have b2:=c.cell J;have e4:=c.frozen q;have e5:=c.lt;have S:=vv (c.set (x:=nth W q+bt N k*256^r) J F rfl);have c2:=qb9 N k;obtain⟨C,T⟩:=yx (bt N k);obtain⟨x,hx⟩:=yx (nth W q);rw[<- T,<- hx] at s1 F G S;rw[<- T] at R c2 b1;rw[<- hx] at b2;have e6:IntKind.u32.wrap (C:Int)=(C:Int):=by rw[qk];omega
   obtain⟨D,U⟩:=yx (C*256^r);rw[<- U] at s1 F R G S;obtain⟨s,hs⟩:=yx (8*r);have e7:IntKind.i64.wrap (8*(r:Int))=(s:Int):=by rw[qj];omega
   have e8:(0:Int)<=(s:Int):=by omega
   have d2:(s:Int)<=32:=by omega
   have e9:IntKind.u32.wrap ((C:Int)*2^s)=(D:Int):=by
    have e:(C:Int)*2^s=(D:Int):=by
     have e2:(2:Int)^s=((256^r:Nat):Int):=by rw[hs,k0v,Int.pow_mul];rfl
     rw[e2,U,k0a]
    rw[e,qk];omega
   have c3:Hid (hi N k=hi N (m-(i+1))):=vv (by rw[Q];congr 1;omega);have c4:=vv G;clear a8 a9 l c a7 f z hr hq Q T hx U hs F R G;go_wp2;refine q02 (fun w'=>w'.cell? ⟨a.heap.size,q,qb⟩=qc (.int .u32 (x:Int))) 13
    (.still 0 (.still 1 (.still 2 (.still 3 (.still 4 (.still 5 (.still 6 (.still 7 (.still 8 (.still 9 (.still 10 (.still 11 (.still 12 .done))))))))))))) (by kernel_rfl) (by kernel_rfl) (fun _ _ d _ _ h=>by cases d<;>exact h) b2 (fun hS0=>?_)
   iterate 13
    refine q01 (v:=?_) rfl (by rfl) ?_ ?_;rotate_left
    ·intro w f0;go_simp;with_reducible rfl
    simp only[Act.put,sa,sb,sc]
   refine q0a ?_;go_wp2;go_roundw
   case rel=>exact⟨i+1,W.set q (x+D),by go_num,by omega,S.o,by rw[k0e];exact a6.o,c4.o.trans c3.o,(HB.o.drew).setCell lr _⟩
   case measure=>simp [intOf];omega
  ·obtain rfl:i=m:=by omega
   rw[k2B,q6y] at f;have f1:=vv f;have K:=a4.o.below l;have c1:=K.c0;have l1:=K.lt;have f2:=K.fz;have a1:(i:Int)<=(i:Int):=Int.le_refl _;have c5:=vv (qbi c.2 f (by rw[z];exact b7.o));obtain⟨V,j⟩:=yx (wr.setCell ⟨w.heap.size,0,qb⟩ (.slice (qc ⟨a.heap.size,0,qb⟩) L L));have E:V.cell? ⟨w.heap.size,0,qb⟩=qc (.slice (qc ⟨a.heap.size,0,qb⟩) L L):=by rw[j];exact q0t c1
   have c6:Hid (Rd V (qc ⟨a.heap.size,0,qb⟩) L L (toL N)):=vv (by rw[<- c5.o,j];exact(a0.o.setOther (by show a.heap.size≠w.heap.size;have:=I.o;omega) _).rd a6.o.symm lr a5);have c7:Hid (Below w.heap.size w V):=vv (by rw[j];exact(Z.o.trans ((b6.o.mono Z.o.size).trans (HB.o.mono (by have:=I.o;omega)))).setCell lr _);have c8:=vv j;have c9:=vv E;clear c f z l him b9 a1 j E;go_wp2;rw[<- c8.o];have E:=c9.o;exact qi (v:=q4w (qc ⟨a.heap.size,0,qb⟩) L L) (by simp [results,results182,go_sem,E]) rfl ⟨_,_,rfl,c6.o,Fr.at_ (by show w.heap.size<=a.heap.size;have:=I.o;omega),c7.o⟩
end Scn
end Go.Proofs.YthopehoklmgphaaGreatDoor
