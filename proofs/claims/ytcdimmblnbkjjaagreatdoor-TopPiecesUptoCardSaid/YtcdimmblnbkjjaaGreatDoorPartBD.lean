/- Lemmas. -/
import Derived.Test.YtcdimmblnbkjjaaGreatDoorPartBC
import Derived.Laws.BytesArg
import Derived.Test.YtcdimmblnbkjjaaGreatDoorPartAW
set_option linter.all false
set_option maxHeartbeats 2000000
set_option maxRecDepth 100000
namespace Go.Proofs.YtcdimmblnbkjjaaGreatDoor.Scn
open Go Go.RowKit
theorem q3k(s:St)(p:List UInt8):-68719476736<=(s.exponent p).1/\(s.exponent p).1<=68719476736:=by
 unfold St.exponent;split
 ·have:=q7j ((s.skip p.length).minus.2.must ten).1 0 (by decide);dsimp only;split<;>omega
 ·constructor<;>(dsimp only;decide)
def txt(U:List Nat):ByteArray:=⟨(U.map UInt8.ofNat).toArray⟩
theorem q2x{w:World}{base n:Nat}{v:Value}{U:List Nat}(h:w.ownsRow base 5 1 v n (u8s U))(hU:∀x∈U,x<256):
  (convert 85 9 v).run Tryz.prog w=.ok (.string (txt U)) w:=by
 have hl:=q83 h;obtain⟨h1,h2⟩:=h;rcases h2 with ⟨rfl,rfl⟩|⟨g,cap,cur,rfl,hb,hg,hc,hm,hs,ht⟩
 ·have:U=[]:=List.eq_nil_of_length_eq_zero hl;subst this;exact run_convert_bytes_nil w 85 5 Tryz.underlying85 Tryz.underlying5 0 0 _ Tryz.underlying9
 ·have e:=run_convert_bytes_back (P:=Tryz.prog) w 85 9 5 ⟨g,0,none⟩ cap (U.map UInt8.ofNat) Tryz.underlying85 Tryz.underlying5 Tryz.underlying9 (fun j hj=>by
   have a0:j<U.length:=by simpa using hj
   have ea:Addr.add ⟨g,0,none⟩ j=⟨g,j,none⟩:=by cases j with|zero=>rfl|succ j=>simp [Addr.add]
   have e2:(u8s U)[j]?=some (.int .u8 ((U[j]:Nat):Int)):=by simp [u8s,List.getElem?_eq_getElem a0]
   have hx:=hU _ (List.getElem_mem a0);rw[<- ht,List.getElem?_take,if_pos (by omega)] at e2;rw[ea];simp only[World.cell?,hg];rw[List.getElem_map];have:(UInt8.ofNat U[j]).toNat=U[j]:=by rw[UInt8.toNat_ofNat'];exact Nat.mod_eq_of_lt hx
   rw[this]
   simpa using e2)
  rw[List.length_map,hl] at e;exact e
def numV(x:Num)(A:Option Addr)(m c:Nat):Value:=
 .agg #[.int .u8 (x.kind:Int),.bool x.neg,.bool x.dneg,.string ⟨x.digits.toArray⟩,.int .i64 x.exp,.bool x.hneg,.slice A m c,.int .i64 x.hexp,.int .u64 (x.payload:Int)]
def qbF(b:Nat)(x:Num)(u:St)(w:World)(e:Ending)(w':World):Prop:=
 ∃A m c,e=.returned (numV x A m c)/\Rd w' A m c (toL x.mant)/\Fr w.heap.size A/\ScAt w' b u/\w.grownBy w' (some b)
def q94(L:List Nat)(k:Nat):List Nat:=(L.take k).map (·+48)++L.drop k
theorem q8v(L:List Nat):q94 L L.length=L.map (·+48):=by unfold q94;rw[List.take_length,List.drop_length,List.append_nil]
theorem q8u(L:List Nat)(k:Nat)(h:k<L.length):nth (q94 L k) k=nth L k:=by
 unfold q94 nth;rw[List.getD_eq_getElem?_getD,List.getD_eq_getElem?_getD,List.getElem?_append_right (by simp;omega),List.length_map,List.length_take,Nat.min_eq_left (by omega),Nat.sub_self,List.getElem?_drop,Nat.add_zero]
theorem q8t(L:List Nat)(k:Nat)(h:k<L.length):(q94 L k).set k (nth L k+48)=q94 L (k+1):=by
 unfold q94;rw[q2v L k h,List.map_append,List.map_singleton,List.set_append_right _ _ (by simp;omega),List.length_map,List.length_take,Nat.min_eq_left (by omega),Nat.sub_self,List.append_assoc];congr 1
 rw[<- List.getElem_cons_drop h]
 rfl
theorem q6S{L:List Nat}{k:Nat}(h:k<L.length):nth L k∈L:=by
 unfold nth;rw[List.getD_eq_getElem?_getD,List.getElem?_eq_getElem h];exact List.getElem_mem h
def Blk(w:World)(g:Nat)(t:TypeId)(cs:List Value):Prop:=w.heap[g]?=some (.cells cs.toArray t (0,0))
theorem Blk.cell{w:World}{g:Nat}{t:TypeId}{cs:List Value}(h:Blk w g t cs)(j:Nat):w.cell? ⟨g,j,none⟩=cs[j]?:=by
 simp only[World.cell?];rw[show w.heap[g]?=_ from h];simp
theorem Blk.fz{w:World}{g:Nat}{t:TypeId}{cs:List Value}(h:Blk w g t cs)(j:Nat):w.frozen? ⟨g,j,none⟩=false:=by
 simp only[World.frozen?];rw[show w.heap[g]?=_ from h];simp
theorem Blk.lt{w:World}{g:Nat}{t:TypeId}{cs:List Value}(h:Blk w g t cs):g<w.heap.size:=(Array.getElem?_eq_some_iff.1 (show w.heap[g]?=_ from h)).1
theorem Blk.made(w:World)(t:TypeId)(cs:List Value):Blk (w.alloc (.cells cs.toArray t)) w.heap.size t cs:=heap_alloc_new w _
theorem Blk.grown{w w':World}{g:Nat}{t:TypeId}{cs:List Value}(h:Blk w g t cs){row:Option Nat}(hb:w.grownBy w' row)(hr:row≠some g):Blk w' g t cs:=(hb.block g h.lt (fun e=>hr e.symm)).trans h
theorem Blk.below{w w':World}{g:Nat}{t:TypeId}{cs:List Value}(h:Blk w g t cs)(hb:Below w.heap.size w w'):Blk w' g t cs:=(hb.block g h.lt).trans h
theorem Blk.other{w:World}{g:Nat}{t:TypeId}{cs:List Value}(h:Blk w g t cs){p:Addr}(hp:p.block≠g)(v:Value):Blk (w.setCell p v) g t cs:=(Below.heap_setCell w p v g (fun e=>hp e.symm)).trans h
theorem q08{P:Program}{ops:Array Oper}{rest:List Oper}{o:Oper}{a:Act}{w:World}{Q:Exit->Act->World->Prop}(hgd:o.guard=none)(ty:TypeId)(x y:Operand)(ho:o.op=.store ty x y)
  (g:Nat) (cells:List Value) (hx:a.eval x=.pointer (some ⟨g,0,none⟩)) (hy:a.eval y=.agg cells.toArray)
  (t:TypeId) (old:List Value) (hg:Blk w g t old) (hi:(P.info? ty).map (·.size)=some cells.length)
  (hold:old.length=cells.length) (h1:cells.all (·.oneCell')=true)
  (h:∀w',Blk w' g t cells->w.grownBy w' (some g)->wpList P ops Q rest (a.put o.dst undef) w'):wpList P ops Q (o::rest) a w:=by
 refine wpList_store_row hgd ty x y ho g cells.toArray hx hy t old.toArray hg (by simpa using hi) (by simpa using hold) (by simpa using h1) (h _ (setRow_heap w g _ _ t _ hg) ⟨rfl,rfl,rfl,by simp [World.setRow],fun i hi a0=>?_⟩);unfold World.setRow;rw[Array.getElem?_modify,if_neg (fun e=>a0 (by rw[e]))]
def q1y:List Value:=[.int .u8 0,.bool false,.bool false,.string ⟨#[]⟩,.int .i64 0,.bool false,.slice none 0 0,.int .i64 0,.int .u64 0]
theorem Blk.num{w:World}{g:Nat}{t:TypeId}{v0 v1 v2 v3 v4 v5 v6 v7 v8:Value}(h:Blk w g t [v0,v1,v2,v3,v4,v5,v6,v7,v8]):
  w.cell? ⟨g,0,none⟩=some v0/\w.cell? ⟨g,1,none⟩=some v1/\w.cell? ⟨g,2,none⟩=some v2/\w.cell? ⟨g,3,none⟩=some v3/\w.cell? ⟨g,4,none⟩=some v4/\w.cell? ⟨g,5,none⟩=some v5/\w.cell? ⟨g,6,none⟩=some v6/\w.cell? ⟨g,7,none⟩=some v7/\w.cell? ⟨g,8,none⟩=some v8:=
 ⟨h.cell 0,h.cell 1,h.cell 2,h.cell 3,h.cell 4,h.cell 5,h.cell 6,h.cell 7,h.cell 8⟩
def q9e(b:Nat)(L:List Nat)(v:St)(x:Value)(B:Nat)(w:World)(i:Value)(wr:World):Prop:=
 ∃q:Nat,q<=L.length/\i=.int .i64 (q:Int)/\wr.ownsRow B 5 1 x L.length (u8s (q94 L q))/\ScAt wr b v/\w.grownBy wr (some b)/\Blk wr w.heap.size 33 q1y/\B<=wr.heap.size
theorem decimal(b:Nat)(s:St)(neg:Bool)(w:World)(h:ScAt w b s)(hg:Bg w):
  Calls Tryz.prog 178 #[.pointer (some ⟨b,0,none⟩),.bool neg] w (qbF b (s.decimal neg).1 (s.decimal neg).2 w):=by
 obtain⟨L,k,u,hm⟩:∃L k u,s.mantissa ten=(L,k,u):=⟨_,_,_,rfl⟩;obtain⟨x,v,hx⟩:∃x v,u.exponent [101]=(x,v):=⟨_,_,rfl⟩;have b1:=q3k u [101];rw[hx] at b1
 try dsimp only at b1
 obtain⟨T,hT⟩:=yx ((L.map fun d=>UInt8.ofNat (d+48)).dropWhile (·==48));obtain⟨S,hS⟩:=yx ((T.reverse.dropWhile (·==48)).reverse);have HE:Hid (s.decimal neg=(⟨1,neg,neg,S,if S=[] then 0 else q7w (x-k+T.length-S.length),false,0,0,0⟩,v)):=vv (by
  unfold St.decimal;rw[hm];dsimp only;rw[hx,<- hT,<- hS])
 obtain⟨Tb,b2⟩:∃Tb:ByteArray,Tb=⟨T.toArray⟩:=⟨_,rfl⟩;obtain⟨Sb,b3⟩:∃Sb:ByteArray,Sb=⟨S.toArray⟩:=⟨_,rfl⟩;have b8:Tb.size=T.length:=by rw[b2];exact List.size_toArray ..
 have d0:Sb.size=S.length:=by rw[b3];exact List.size_toArray ..
 have d1:Hid (∀w,Calls Tryz.prog 234 #[.string (txt (L.map (·+48))),.string ⟨#[48]⟩] w fun e w'=>e=.returned (.string Tb)/\w'=w):=vv fun w=>by
  have:=Tryz.strings_TrimLeft_one (txt (L.map (·+48))) 48 (by decide) w;have e:Lib.trimLeftB (txt (L.map (·+48))).data.toList 48=T:=by
   rw[hT];unfold Lib.trimLeftB txt;simp only[List.map_map]
   rfl
  rwa [e,<- b2] at this
 have d2:Hid (∀w,T.length<=131072->Calls Tryz.prog 235 #[.string Tb,.string ⟨#[48]⟩] w fun e w'=>e=.returned (.string Sb)/\w'=w):=vv fun w hl=>by
  have:=Tryz.strings_TrimRight_one Tb 48 (by decide) w (by rw[b8];omega);have e:Lib.trimRightB Tb.data.toList 48=S:=by
   rw[hS,b2];rfl
  rwa [e,<- b3] at this
 have e2:Hid (T.length<=L.length/\S.length<=T.length):=vv (by
  refine⟨?_,?_⟩
  ·rw[hT];have:=(List.dropWhile_sublist (fun(c:UInt8)=>c==48) (l:=L.map fun d=>UInt8.ofNat (d+48))).length_le
   rwa [List.length_map] at this
  ·rw[hS,List.length_reverse];have:=(List.dropWhile_sublist (fun(c:UInt8)=>c==48) (l:=T.reverse)).length_le
   rwa [List.length_reverse] at this)
 have HX:=vv b1;have HM:=vv hm;have f7:=vv hx;have HH:=vv h;have HG:=vv hg;have HL:=vv h.lt;have b4:=vv fun w h hg=>mantissa 175 ten q5v b s w h hg
 rw[hm] at b4;replace b4:Hid (∀w,ScAt w b s->Bg w->Calls Tryz.prog 226 #[.pointer (some ⟨b,0,none⟩),.func (.func 175) #[] #[]] w (q1A b L k u w)):=b4;have b5:=vv fun w h hg=>exponent b u ⟨#[101]⟩ w h hg (by decide)
 rw[show(⟨#[101]⟩:ByteArray).data.toList=[101] from rfl,hx] at b5;replace b5:Hid (∀w,ScAt w b u->Bg w->Calls Tryz.prog 228 #[.pointer (some ⟨b,0,none⟩),.string ⟨#[101]⟩] w (ScP b v (.int .i64 x) w)):=b5;have a6:=vv (And.intro b8 d0);have e3:=vv b3;clear hm hx b1 hT hS h hg b8 d0 b2 b3;go_enter Tryz.func178,Tryz.ntmps178
 go_wp2_with fail
 obtain⟨w0,a7⟩:=yx (w.alloc (.cells #[.int .u8 0,.bool false,.bool false,.string ⟨#[]⟩,.int .i64 0,.bool false,.slice none 0 0,.int .i64 0,.int .u64 0] 33));rw[<- a7];have b9:w.grownBy w0 (some b):=by rw[a7];exact q0n (World.grownBy.refl w _) _
 have e4:Hid (Blk w0 w.heap.size 33 q1y):=vv (by rw[a7];exact Blk.made w _ q1y);have a8:ScAt w0 b s:=HH.o.grown (row:=none) (by rw[a7];exact q0n (World.grownBy.refl w _) _) (fun k e=>by cases e);have c0:Hid (w0.heap.size=w.heap.size+1):=vv (by rw[a7];simp);have e5:=vv b9;have c1:b≠w.heap.size:=by have:=HL.o;omega
 have b6:=vv c1;have e6:=vv (b4.o w0 a8 (HG.o.grown b9 HH.o));clear b9 a8 a7 c1;refine e6.o.mono ?_;rintro e w1 ⟨y,rfl,a0,a3,a1,f8,hk,d3⟩;have a9:=vv a0;have e7:=vv (e4.o.grown a1 (fun e=>b6.o (by injection e)));have d4:=vv (q02 e5.o a1);have d5:=vv d3;have e8:=vv (b5.o w1 a3 (HG.o.grown d4.o HH.o));have f9:=a1.size;clear a0 a3 a1 d3;go_wp2_with fail
 refine e8.o.mono ?_;rintro e w2 ⟨rfl,a3,a1⟩;obtain⟨A,cap,hy⟩:=q18 a9.o;subst hy;have e9:=HX.o.1;have f0:=HX.o.2;have g0:(k:Int)<=65536:=by omega
 have g1:(L.length:Int)<=131072:=by omega
 have g2:=a1.size;have d6:Hid (q9e b L v (.slice A L.length cap) w0.heap.size w (.int .i64 0) w2):=vv ⟨0,Nat.zero_le _,rfl,q0J a9.o a1 (by have:=c0.o;have:=HL.o;omega),a3,q02 d4.o a1,e7.o.grown a1 (fun e=>b6.o (by injection e)),by omega⟩;clear a3 a1;go_wp2;go_loopw [23] (fun i wr=>q9e b L v (.slice A L.length cap) w0.heap.size w i wr) (fun i _=>L.length-(intOf i).toNat)
 case atStart=>exact d6.o
 case round =>
  clear d6;obtain⟨q,hq,rfl,a0,a3,a1,hR,d7⟩:=hrel;have HR:=vv hR;have g3:=vv a0;have c2:=vv a3;have c3:=vv a1;have g4:=vv d7;clear a3 a1 hR d7;by_cases hql:q<L.length
  ·obtain⟨g,cap',e,g5⟩:=q2y a0 (by omega);cases e
   obtain⟨r1,r2,r3,r4⟩:=q37 a0 hql;rw[q8u L q hql] at r1;have c4:nth L q<16:=d5.o _ (q6S hql);obtain⟨d,hd⟩:=yx (nth L q);have g6:(d:Int)<=15:=by omega
   have HS:=vv (q5p a0 q (d+48));rw[hd,q8t L q hql,<- hd,Int.natCast_add] at HS;rw[<- hd] at r1;have g7:(q:Int)<(L.length:Int):=by omega
   have a4:g≠b/\g≠w.heap.size:=by have:=c0.o;have:=HL.o;omega
   have a2:=q07 (World.grownBy.refl wr (some g)) (p:=⟨g,q,none⟩) (.inl rfl) (.int .u8 ((d:Int)+48));have c5:=vv (c2.o.grown a2 (fun k e=>by cases e;exact a4.1));have f1:=vv (HR.o.grown a2 (fun e=>a4.2 (by injection e)));have f2:=vv (q0f c3.o a2 (fun k e=>by cases e;have:=c0.o;omega));have g8:=a2.size;clear a0 hd c4 a2 a4;go_wp2;go_roundw
   case rel=>exact⟨q+1,by omega,by go_num,HS.o,c5.o,f2.o,f1.o,by omega⟩
   case measure=>simp [intOf];omega
  ·have f3:q=L.length:=by omega
   subst f3;rw[q8v] at a0;have d8:=q2x a0 (fun y hy=>by
    obtain⟨d,hd,rfl⟩:=List.mem_map.1 hy;have:=d5.o d hd;omega)
   have f4:=e2.o;have g9:(Tb.size:Int)<=131072:=by rw[a6.o.1];omega
   have i0:(Sb.size:Int)<=131072:=by rw[a6.o.2];omega
   have i1:=HR.o.lt;have d9:Hid (T.length<=131072):=vv (by omega);clear a0 f4;by_cases hz:Sb.size=0
   ·obtain rfl:Sb=⟨#[]⟩:=ByteArray.ext (Array.eq_empty_of_size_eq_zero hz);have c6:S=[]:=List.eq_nil_of_length_eq_zero (by rw[<- a6.o.2];rfl);have b7:Hid (s.decimal neg=(⟨1,neg,neg,S,0,false,0,0,0⟩,v)):=vv (by rw[HE.o,if_pos c6]);have f5:=vv c6;clear hz c6;go_wp2_with fail
    refine(d1.o _).mono ?_;rintro e w' ⟨rfl,rfl⟩;go_wp2_with fail
    refine(d2.o _ d9.o).mono ?_;rintro e w' ⟨rfl,rfl⟩;go_wp2_with (with_reducible refine q08 rfl 33 (.tmp 4) (.tmp 54) rfl w.heap.size [.int .u8 1,.bool neg,.bool neg,.string ⟨#[]⟩,.int .i64 0,.bool false,.slice none 0 0,.int .i64 0,.int .u64 0] rfl rfl 33 q1y (HR.o.below ((Below.refl _ _).alloc lr _)) (by kernel_rfl) rfl rfl ?_)
    intro w8 hB b0;have a5:=q02 (q0n (World.grownBy.refl _ (some w.heap.size)) _) b0;have c7:=vv (c2.o.grown a5 (fun k e=>by cases e;exact fun e=>b6.o e.symm));have c8:=vv (q0f c3.o a5 (fun k e=>by cases e;exact lr));have c9:=vv hB;clear hB b0 a5;go_wp2;obtain⟨k0,k1,k2,k3,k4,k5,k6,k7,k8⟩:=c9.o.num;rw[b7.o];exact bodyPost_ret (v:=numV ⟨1,neg,neg,S,0,false,0,0,0⟩ none 0 0) (by simp [results,Tryz.results178,go_sem,k0,k1,k2,k3,k4,k5,k6,k7,k8,numV,f5.o]) rfl ⟨none,0,0,rfl,Rd.nil _,Fr.none_ _,c7.o,c8.o⟩
   ·have c1:=q1V (s:=Sb) (by omega);have b7:Hid (s.decimal neg=(⟨1,neg,neg,S,q7w (x-(k:Int)+(Tb.size:Int)-(Sb.size:Int)),false,0,0,0⟩,v)):=vv (by
     rw[HE.o,if_neg (fun e=>hz (by rw[a6.o.2,e];rfl)),a6.o.1,a6.o.2])
    obtain⟨cl,e0⟩:=yx (q7w (x-(k:Int)+(Tb.size:Int)-(Sb.size:Int)));have e1:=vv fun w=>qb7 (x-(k:Int)+(Tb.size:Int)-(Sb.size:Int)) w
    rw[<- e0] at b7 e1;have f6:=vv e3.o;clear hz e0;go_wp2_with fail
    refine(d1.o _).mono ?_;rintro e w' ⟨rfl,rfl⟩;go_wp2_with fail
    refine(d2.o _ d9.o).mono ?_;rintro e w' ⟨rfl,rfl⟩;go_wp2_with fail
    refine(e1.o _).mono ?_;rintro e w' ⟨rfl,rfl⟩;go_wp2_with (with_reducible refine q08 rfl 33 (.tmp 4) (.tmp 54) rfl w.heap.size [.int .u8 1,.bool neg,.bool neg,.string Sb,.int .i64 cl,.bool false,.slice none 0 0,.int .i64 0,.int .u64 0] rfl rfl 33 q1y (HR.o.below ((Below.refl _ _).alloc lr _)) (by kernel_rfl) rfl rfl ?_)
    intro w8 hB b0;have a5:=q02 (q0n (World.grownBy.refl _ (some w.heap.size)) _) b0;have c7:=vv (c2.o.grown a5 (fun k e=>by cases e;exact fun e=>b6.o e.symm));have c8:=vv (q0f c3.o a5 (fun k e=>by cases e;exact lr));have c9:=vv hB;clear hB b0 a5;go_wp2;obtain⟨k0,k1,k2,k3,k4,k5,k6,k7,k8⟩:=c9.o.num;rw[b7.o];exact bodyPost_ret (v:=numV ⟨1,neg,neg,S,cl,false,0,0,0⟩ none 0 0) (by simp [results,Tryz.results178,go_sem,k0,k1,k2,k3,k4,k5,k6,k7,k8,numV,f6.o]) rfl ⟨none,0,0,rfl,Rd.nil _,Fr.none_ _,c7.o,c8.o⟩
end Go.Proofs.YtcdimmblnbkjjaaGreatDoor.Scn
namespace Go.Proofs.YtcdimmblnbkjjaaGreatDoor.Scn
open Go Go.RowKit R5 Rtp
theorem q8l(g o:Nat)(u:Int)(w:World)(h:IntAt w g o u)(sN:bl u.natAbs<=4294967296):
  Calls Tryz.prog 232 #[.pointer (some ⟨g,o,none⟩)] w fun e w'=>∃A n,e=.returned (q4b A n n)/\Rd w' A n n (toL u.natAbs)/\Fr w.heap.size A/\Below w.heap.size w w':=by
 obtain⟨w0,a4⟩:=yx (w.alloc (.cells #[.slice none 0 0] 28));have b0:Below w.heap.size w w0:=by rw[a4];exact(Below.refl _ w).alloc lr _
 have c0:NatCell w0 w.heap.size:=by rw[a4];exact NatCell.made _ _
 have b3:=vv (A.Bytes g o u w0 (h.below b0) sN);have b4:=vv (q2Y u.natAbs);obtain⟨N,hN⟩:=yx (u.natAbs);rw[<- hN] at b3 b4 sN ⊢;have c8:=vv a4;have b5:=vv b0;have c9:=vv c0;have d0:=vv sN;clear h a4 b0 c0 sN hN;go_enter Tryz.func232,Tryz.ntmps232
 go_wp2_with fail
 rw[<- c8.o];refine b3.o.mono ?_;rintro e w1 ⟨B,m,rfl,hm,b6,a6⟩;have b7:=vv b6;have d1:=vv a6;have b8:=vv (c9.o.below a6);have a7:Hid (w.heap.size<w1.heap.size):=vv b8.o.lt;obtain⟨L,hL⟩:=yx ((m+3)/4);have d2:Hid (L=words N):=vv (by rw[hL,hm];exact b4.o);have e7:m<=4294967296:=by have:=d0.o;omega
 have b9:L<=35184372088832:=by omega
 have e8:(L:Int)<=35184372088832:=by omega
 have d3:((m:Int)+3)/4=(L:Int):=by omega
 have e9:(m:Int)<=4294967296:=by omega
 have f0:=A.mk L b9;have HL:=vv hL;have H1:Hid (Own (w1.alloc (.cells (madeCells #[.int .u32 0] L) 34)) w1.heap.size 34 (List.replicate L 0)):=vv (Own.made w1 L 34);have H3:Hid (Below w1.heap.size w1 (w1.alloc (.cells (madeCells #[.int .u32 0] L) 34))):=vv ((Below.refl _ w1).alloc lr _);clear b6 a6 hL hm;go_wp2;clear d3;go_loopw [17] (fun t wr=>∃(i:Nat) (W:List Nat),t=.int .i64 i/\i<=m/\Own wr w1.heap.size 34 W/\W.length=L/\val W=hi N (m-i)/\Below w1.heap.size w1 wr) (fun t _=>m-(intOf t).toNat)
 case atStart=>exact⟨0,List.replicate L 0,rfl,Nat.zero_le _,H1.o,List.length_replicate,by rw[q0h,Nat.sub_zero,q79 b7.o.lt],H3.o⟩
 case round =>
  obtain⟨i,W,rfl,d4,a0,a5,a2,hB⟩:=hrel;have a8:=vv a0;have c2:=vv a5;have HB:=vv hB;by_cases him:i<m
  ·obtain⟨k,hk⟩:=yx (m-1-i);have c3:val W=hi N (k+1):=by rw[a2];congr 1;omega
   have f1:(m:Int)-1-(i:Int)=(k:Int):=by omega
   obtain⟨b,off,e,c4,c5⟩:=b7.o.cell (by omega);subst e;have c6:=(hB.cell (p:=⟨b,off+i,none⟩) c4).trans (c5 i him);rw[<- hk] at c6;obtain⟨q,hq⟩:=yx (k/4);have f2:q<L:=by have:=HL.o;omega
   have a9:q<W.length:=by omega
   have f3:(k:Int)/4=(q:Int):=by omega
   have d5:(k:Int)<=4294967296:=by omega
   have d6:(q:Int)<(L:Int):=by omega
   obtain⟨r,hr⟩:=yx (k%4);have f4:(k:Int).tmod 4=(r:Int):=by rw[Int.tmod_eq_emod_of_nonneg (by omega)];omega
   have f5:IntKind.i64.wrap (q:Int)=(q:Int):=by rw[IntKind.wrap_i64];omega
   have f6:(0:Int)<=(q:Int):=by omega
   obtain⟨s1,s2,s3,s4⟩:=q3o a0.2 a9 (show k=4*q+r by omega) (by omega) c3;have c7:=a0.cell a9;have f7:=a0.frozen q;have f8:=a0.lt;have HS:=vv (a0.set (x:=nth W q+bt N k*256^r) a9 s2 rfl);have d7:=q8I N k;obtain⟨C,hC⟩:=yx (bt N k);obtain⟨x,hx⟩:=yx (nth W q);rw[<- hC,<- hx] at s1 s2 s4 HS;rw[<- hC] at s3 d7 c6;rw[<- hx] at c7;have f9:IntKind.u32.wrap (C:Int)=(C:Int):=by rw[IntKind.wrap_u32];omega
   obtain⟨D,hD⟩:=yx (C*256^r);rw[<- hD] at s1 s2 s3 s4 HS;obtain⟨s,hs⟩:=yx (8*r);have g0:IntKind.i64.wrap (8*(r:Int))=(s:Int):=by rw[IntKind.wrap_i64];omega
   have g1:(0:Int)<=(s:Int):=by omega
   have d8:(s:Int)<=32:=by omega
   have g2:IntKind.u32.wrap ((C:Int)*2^s)=(D:Int):=by
    have e:(C:Int)*2^s=(D:Int):=by
     have e2:(2:Int)^s=((256^r:Nat):Int):=by rw[hs,Int.natCast_pow,Int.pow_mul];rfl
     rw[e2,hD,Int.natCast_mul]
    rw[e,IntKind.wrap_u32];omega
   have d9:Hid (hi N k=hi N (m-(i+1))):=vv (by rw[hk];congr 1;omega);have e0:=vv s4;clear c4 c5 hB a0 c3 a2 a5 hr hq hk hC hx hD hs s2 s3 s4;go_wp2;refine q01 (fun w'=>w'.cell? ⟨w1.heap.size,q,none⟩=some (.int .u32 (x:Int))) 13
    (.still 0 (.still 1 (.still 2 (.still 3 (.still 4 (.still 5 (.still 6 (.still 7 (.still 8 (.still 9 (.still 10 (.still 11 (.still 12 .done))))))))))))) (by kernel_rfl) (by kernel_rfl) (fun _ _ d _ _ h=>by cases d<;>exact h) c7 (fun hS0=>?_)
   iterate 13
    refine q00 (v:=?_) rfl (by rfl) ?_ ?_;rotate_left
    ·intro w g3;go_simp;with_reducible rfl
    simp only[Act.put,sa,sb,sc]
   refine q0d ?_;go_wp2;go_roundw
   case rel=>exact⟨i+1,W.set q (x+D),by go_num,by omega,HS.o,by rw[List.length_set];exact c2.o,e0.o.trans d9.o,(HB.o.drew).setCell lr _⟩
   case measure=>simp [intOf];omega
  ·obtain rfl:i=m:=by omega
   rw[Nat.sub_self,q54] at a2;have g4:=vv a2;have b1:=b8.o.below hB;have c1:=b1.c0;have l1:=b1.lt;have fz1:=b1.fz;have b2:(i:Int)<=(i:Int):=Int.le_refl _;have e1:=vv (q8U a0.2 a2 (by rw[a5];exact d2.o));obtain⟨w9,a3⟩:=yx (wr.setCell ⟨w.heap.size,0,none⟩ (.slice (some ⟨w1.heap.size,0,none⟩) L L));have a1:w9.cell? ⟨w.heap.size,0,none⟩=some (.slice (some ⟨w1.heap.size,0,none⟩) L L):=by rw[a3];exact q0u c1
   have e3:Hid (Rd w9 (some ⟨w1.heap.size,0,none⟩) L L (toL N)):=vv (by
    rw[<- e1.o,a3];exact(a8.o.setOther (by show w1.heap.size≠w.heap.size;have:=a7.o;omega) _).rd c2.o.symm lr b9)
   have e4:Hid (Below w.heap.size w w9):=vv (by
    rw[a3];exact(b5.o.trans ((d1.o.mono b5.o.size).trans (HB.o.mono (by have:=a7.o;omega)))).setCell lr _)
   have e5:=vv a3;have e6:=vv a1;clear a0 a2 a5 hB him d4 b2 a3 a1;go_wp2;rw[<- e5.o];have a1:=e6.o;exact bodyPost_ret (v:=q4b (some ⟨w1.heap.size,0,none⟩) L L) (by simp [results,Tryz.results232,go_sem,a1]) rfl ⟨_,_,rfl,e3.o,Fr.at_ (by show w.heap.size<=w1.heap.size;have:=a7.o;omega),e4.o⟩
end Go.Proofs.YtcdimmblnbkjjaaGreatDoor.Scn
