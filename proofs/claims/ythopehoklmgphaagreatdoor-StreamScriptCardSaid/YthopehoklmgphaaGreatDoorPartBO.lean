/- Lemmas. -/
import Derived.Test.YthopehoklmgphaaGreatDoorPartBN
import Derived.Shelf.Strings.SlTrimAscii
set_option linter.all false
set_option maxHeartbeats 4000000
set_option maxRecDepth 100000
open Go.Proofs.Tryz
open Bool renaming false->qa,true->qj
open Go renaming bodyPost_ret->qb,results_cell_row->qd,RowKit.Below.refl->qe,World->ql,World.grownBy.refl->qm,Calls->qn
open Option renaming none->qc,some->qh
open Decidable renaming decide->qf
open Go.RowKit renaming Below->qg,Hid->qk
open Go.Proofs.Tryz renaming prog->qi
namespace Go.Proofs.YthopehoklmgphaaGreatDoor
namespace Scn
open Go Go.RowKit
theorem q5F(l:List UInt8):∀n,n<=l.foldl (fun n b=>10*n+(b.toNat-48)) n:=by
 induction l with
 | nil=>intro n;exact lr
 | cons a l ih=>intro n;rw[List.foldl_cons];exact k06 (by omega) (ih _)
theorem qds(l:List UInt8):∀(n:Nat),(∀c∈l,48<=c.toNat/\c.toNat<=57)->n<=18446744073709551615 ->Lib.parseUintM 18446744073709551615 n l=if l.foldl (fun n b=>10*n+(b.toNat-48)) n<=18446744073709551615 then .ok (l.foldl (fun n b=>10*n+(b.toNat-48)) n) else .range:=by
 induction l with
 | nil=>intro n _ d;unfold Lib.parseUintM;rw[List.foldl_nil,if_pos d]
 | cons a l ih =>
  intro n e d;have f:=e a List.mem_cons_self;have g:=q5F l (10*n+(a.toNat-48));rw[List.foldl_cons];unfold Lib.parseUintM;rw[if_pos f];split
  ·rw[if_neg (by omega)]
  ·split
   ·rw[if_neg (by omega)]
   ·rw[show n*10+(a.toNat-48)=10*n+(a.toNat-48) from by omega];exact ih _ (fun c hc=>e c (List.mem_cons_of_mem _ hc)) (by omega)
theorem qdr{l:List UInt8}(h:∀c∈l,48<=c.toNat/\c.toNat<=57)(h0:l≠[]):Lib.parseUintB 64 l=if q12 l<=18446744073709551615 then .ok (q12 l) else .range:=by unfold Lib.parseUintB;rw[if_neg h0];exact qds l 0 h (by decide)
theorem qcw:∀c:Fin 256,q8n.contains c.val.toUInt8=qj->48<=c.val/\c.val<=57:=by decide +kernel
theorem q4G(r:ByteArray):∀c∈q0G r,48<=c.toNat/\c.toNat<=57:=by
 intro c f;have g:q8n.contains c=qj:=by
  have:∀(l:List UInt8),c∈l.takeWhile (fun b=>q8n.contains b)->q8n.contains c=qj:=by
   intro l
   induction l with
   | nil=>intro h;cases h
   | cons a l ih =>
    intro h;rw[List.takeWhile_cons] at h;split at h
    ·rcases k1E.1 h with h|h
     ·rw[h];assumption
     ·exact ih h
    ·cases h
  exact this _ f
 have d:=qcw ⟨c.toNat,k1q c⟩;have e:(c.toNat.toUInt8)=c:=UInt8.ofNat_toNat;rw[e] at d;exact d g
theorem q3e(r:ByteArray):q0G r++Lib.trimLeftS r.data.toList q8n=r.data.toList:=List.takeWhile_append_dropWhile
theorem q63(r:ByteArray):r.extract 0 (q0G r).length=⟨(q0G r).toArray⟩:=by
 apply ByteArray.ext;apply Array.ext';rw[q7L,k0L];have:=q3e r
 conv=>lhs;rw[<- this]
 rw[List.take_left'];rfl
theorem payload(b:Nat)(s:St)(w:ql)(h:ScAt w b s)(hg:Bg w):qn qi 116 #[.pointer (qh ⟨b,0,qc⟩)] w (ScP b s.payload.2 (.int .u64 ((s.payload.1:Nat):Int)) w):=by
 have Q:=vv h;have S:=vv hg;cases hp:s.has [40] with
 | false =>have l:qk (s.payload=(0,s)):=vv (by unfold St.payload;rw[hp];rfl);have p:=vv (q6z b s ⟨#[40]⟩ w h hp);clear h hg hp;go_enter func116,ntmps116;go_wp2_with fail;refine p.o.mono ?_;rintro e w1 ⟨rfl,a,f⟩;go_wp2;go_ret;rw[l.o];exact⟨rfl,a,f⟩
 | true =>
  have p:=vv (q81 b s ⟨#[40]⟩ w h hp);obtain⟨u,U⟩:=yx (s.skip 1);have l:qk (s.payload=if q0G u.rest=[] then(0,u.fail 111) else if 2251799813685247<q12 (q0G u.rest) then(0,u.put 115) else(q12 (q0G u.rest),if(u.skip (q0G u.rest).length).has [41] then(u.skip (q0G u.rest).length).skip 1 else(u.skip (q0G u.rest).length).fail 113)):=vv (by unfold St.payload;rw[hp,if_pos rfl,<- U]);rw[show s.skip (⟨#[40]⟩:ByteArray).size=u from U.symm] at p;clear h hg hp U;go_enter func116,ntmps116;go_wp2_with fail;refine p.o.mono ?_;rintro e w1 ⟨rfl,a,f⟩;have E:=vv a;have L:=vv f;have V:=a.c0;have hl:=a.lt;obtain⟨R,I⟩:=yx (u.rest);obtain⟨T,x⟩:∃T:List UInt8,T=q0G R:=⟨_,rfl⟩;obtain⟨D,W⟩:∃D:ByteArray,D=⟨(Lib.trimLeftS R.data.toList q8n).toArray⟩:=⟨_,rfl⟩;have b0:T.length+D.size=R.size:=by have:=k0g List.length (q3e R);rw[k0p,q0T] at this;rw[x,W];show _+(List.toArray _).size=_;rw[k21];exact this
  obtain⟨g,F⟩:∃g:ByteArray,g=⟨T.toArray⟩:=⟨_,rfl⟩;have Z:R.extract 0 T.length=g:=by rw[F,x];exact q63 R
  have M:g.size=T.length:=by rw[F];exact k21 ..
  have a1:R.size<=65536:=by have:=a.sm;rw[I];omega
  have b1:qk (∀w,qn qi 184 #[.string R,.string ⟨#[48,49,50,51,52,53,54,55,56,57]⟩] w fun e w'=>e=.returned (.string D)/\qg w.heap.size w w'):=vv fun w=>by have:=Any.strings_TrimLeft_laid Tryz.lays161 (by kernel_rfl) R ⟨#[48,49,50,51,52,53,54,55,56,57]⟩ w (by decide) (ascii_of_all (by decide));rw[W];exact this
  rw[<- I] at V l;rw[<- x] at l;have a3:=vv I;have b2:qk (∀c∈T,48<=c.toNat/\c.toNat<=57):=vv (by rw[x];exact q4G R);have G:=vv (And.intro F M);have b7:(R.size:Int)-(D.size:Int)=(g.size:Int):=by omega
  have b6:R.extract 0 g.size=g:=by rw[M];exact Z
  have b8:(R.size:Int)<=65536:=by omega
  have b9:(g.size:Int)<=(R.size:Int):=by omega
  clear a f I x W b0 F Z M a1;go_wp2_with fail;refine q02 (fun w'=>w'.cell? ⟨b,0,qc⟩=qh (.string R)) 17
   (.still 0 (.still 1 (.still 2 (.still 3 (.still 4 (.still 5 (.still 6 (.still 7 (.still 8 (.still 9 (.still 10 (.still 11 (.still 12 (.one 13 (.still 14 (.still 15 (.still 16 .done))))))))))))))))) (by kernel_rfl) (by kernel_rfl) (fun _ _ d _ _ h=>by cases d<;>exact h) V (fun hS0=>?_)
  obtain⟨wc,H⟩:=yx (w1.drew);have E:qk (ScAt wc b u):=vv (by rw[H];exact E.o.drew);have L:qk (w.grownBy wc (qh b)):=vv (by rw[H];exact q39 L.o);rw[<- H] at hS0 ⊢;clear H hl V
  iterate 13
   refine q01 (v:=?_) rfl (by rfl) ?_ ?_;rotate_left
   ·intro w b3;go_simp;with_reducible rfl
   simp only[Act.put,sa,sb,sc]
  refine q04 rfl (by rfl) (fun K hK=>?_);go_simp;refine(b1.o _).mono ?_;rintro e r ⟨rfl,i⟩;have k:=vv (E.o.below i E.o.lt);have t:=vv (q00 L.o (q03 i _));clear i;go_wp2_with fail;refine hK.out _ _ (a3.o ▸ k.o.c0) (fun a0=>?_);clear hK;have c1:IntKind.i64.wrap (g.size:Int)=(g.size:Int):=IntWalk.i64_in _ (by omega)
  iterate 3
   refine q01 (v:=?_) rfl (by rfl) ?_ ?_;rotate_left
   ·intro w b3;go_simp;with_reducible rfl
   simp only[Act.put,sa,sb,sc]
  refine q0a ?_;clear a0 hS0;by_cases hT0:T=[]
  ·have m:qk (s.payload=(0,u.fail 111)):=vv (by rw[l.o,if_pos hT0]);obtain rfl:g=⟨#[]⟩:=by rw[G.o.1,hT0]
   have b4:=vv (fail b u 111 r k.o (S.o.grown t.o Q.o));clear hT0;go_wp2_with fail;refine b4.o.mono ?_;rintro e y ⟨rfl,a,f⟩;have j:=vv a;have q:=vv (q00 t.o f);clear a f;go_wp2;go_ret;rw[m.o];exact⟨rfl,j.o,q.o⟩
  ·have c3:=q1R (s:=g) (by rw[G.o.2];exact List.length_pos_iff.2 hT0);have O:=vv (qdr b2.o hT0);have a4:g.data.toList=T:=by rw[G.o.1]
   obtain⟨n,X⟩:=yx (q12 T);rw[<- X,<- a4] at O;rw[if_neg hT0,<- X] at l;clear X hT0 a4;have a2:=vv (S.o.grown t.o Q.o);have a5:=vv G.o.2;by_cases hr:n<=18446744073709551615
   ·have J:=vv (Tryz.strconv_ParseUint_10_at64_ok g (by omega) n (O.o.trans (if_pos hr)) r);clear hr;by_cases hb:2251799813685247<n
    ·have m:qk (s.payload=(0,u.put 115)):=vv (by rw[l.o,if_pos hb]);have t1:qf ((2251799813685247:Int)<(n:Int))=qj:=k03 (by omega);have k2:=k.o.c2;have kf:=k.o.fz 2;clear hb;go_wp2_with fail;refine J.o.mono ?_;rintro e y ⟨rfl,z⟩;have i:qg r.heap.size r y:=by
      rcases z with rfl|rfl
      ·exact qe _ _
      ·exact Lib.bytesWorld_below _ _ _
     have j:=vv (k.o.below i k.o.lt);have q:=vv (q00 t.o (q03 i _));have k2:=j.o.c2;have kf:=j.o.fz 2;have kl:=j.o.lt;have C:=vv (And.intro (j.o.put 115) (q00 q.o (q0W (.int .i64 115))));clear i z;go_wp2;go_ret;rw[m.o];exact⟨rfl,C.o.1,C.o.2⟩
    ·obtain⟨v,Y⟩:=yx (u.skip T.length);have m:qk (s.payload=(n,if v.has [41] then v.skip 1 else v.fail 113)):=vv (by rw[l.o,if_neg hb,Y]);have t1:qf ((2251799813685247:Int)<(n:Int))=qa:=k00 (by omega);have a6:=vv fun w h=>skip b u T.length w h (by rw[<- a5.o,<- a3.o];omega)
     rw[<- Y,<- a5.o] at a6;clear hb Y;go_wp2_with fail;refine J.o.mono ?_;rintro e y ⟨rfl,z⟩;have i:qg r.heap.size r y:=by
      rcases z with rfl|rfl
      ·exact qe _ _
      ·exact Lib.bytesWorld_below _ _ _
     have j:=vv (k.o.below i k.o.lt);have q:=vv (q00 t.o (q03 i _));clear i z;go_wp2_with fail;refine(a6.o _ j.o).mono ?_;rintro e w4 ⟨rfl,a,f⟩;have c4:=vv a;have a7:=vv (q00 q.o f);clear f;cases hp:v.has [41] with
     | true =>have p:=vv (q81 b v ⟨#[41]⟩ w4 a hp);have P:qk (s.payload=(n,v.skip 1)):=vv (by rw[m.o,hp];rfl);clear a hp;go_wp2_with fail;refine p.o.mono ?_;rintro e w5 ⟨rfl,a,f⟩;go_wp2;go_ret;rw[P.o];exact⟨rfl,a,q00 a7.o f⟩
     | false =>have p:=vv (q6z b v ⟨#[41]⟩ w4 a hp);have P:qk (s.payload=(n,v.fail 113)):=vv (by rw[m.o,hp];rfl);clear a hp;go_wp2_with fail;refine p.o.mono ?_;rintro e w5 ⟨rfl,a,f⟩;have a8:=vv (q00 a7.o f);have b5:=vv (fail b v 113 w5 a (S.o.grown a8.o Q.o));clear a f;go_wp2_with fail;refine b5.o.mono ?_;rintro e w6 ⟨rfl,a,f⟩;go_wp2;go_ret;rw[P.o];exact⟨rfl,a,q00 a8.o f⟩
   ·have m:qk (s.payload=(0,u.put 115)):=vv (by rw[l.o,if_pos (by omega)]);obtain⟨te,pe,a9⟩:=a2.o.er;have J:=vv (Tryz.strconv_ParseUint_10_at64_range g (by omega) (O.o.trans (if_neg hr)) _ r a9 (.inr ⟨te,pe,rfl⟩));clear hr a9;go_wp2_with fail;refine J.o.mono ?_;rintro e y ⟨N,rfl,_,_,i⟩;have j:=vv (k.o.below i k.o.lt);have q:=vv (q00 t.o (q03 i _));have k2:=j.o.c2;have kf:=j.o.fz 2;have kl:=j.o.lt;have C:=vv (And.intro (j.o.put 115) (q00 q.o (q0W (.int .i64 115))));clear i;go_wp2;go_ret;rw[m.o];exact⟨rfl,C.o.1,C.o.2⟩
end Scn
namespace Scn
open Go Go.RowKit R5
theorem qdt{s:St}{p:ByteArray}(h:s.fold p.data.toList=qj):s.over p=s.skip p.size:=by unfold St.over;rw[h];rfl
theorem qdu{s:St}{p:ByteArray}(h:s.fold p.data.toList=qa):s.over p=s:=by unfold St.over;rw[h];rfl
theorem q7g(b:Nat)(s:St)(p:ByteArray)(w:ql)(h:ScAt w b s)(hp:p.size<=65536)(hb:s.fold p.data.toList=qj):qn qi 113 #[.pointer (qh ⟨b,0,qc⟩),.string p] w (ScP b (s.skip p.size) (.bool qj) w):=by
 have:=fold b s p w h hp
 rwa [qdt hb,hb] at this
theorem q7h(b:Nat)(s:St)(p:ByteArray)(w:ql)(h:ScAt w b s)(hp:p.size<=65536)(hb:s.fold p.data.toList=qa):qn qi 113 #[.pointer (qh ⟨b,0,qc⟩),.string p] w (ScP b s (.bool qa) w):=by
 have:=fold b s p w h hp
 rwa [qdu hb,hb] at this
theorem number(b:Nat)(s:St)(w:ql)(h:ScAt w b s)(hg:Bg w):qn qi 66 #[.pointer (qh ⟨b,0,qc⟩)] w (qeq b s.number.1 s.number.2 w):=by
 have S:=vv h;have HG:=vv hg;have HL:=vv h.lt;have l:qk (b≠w.heap.size):=vv (by have:=HL.o;omega);obtain⟨p,u,hm⟩:∃p u,s.minus=(p,u):=⟨_,_,rfl⟩;have HM:=vv hm;have b2:=vv fun w h=>minus b s w h
 rw[hm] at b2;obtain⟨d,n,hn⟩:∃d n,ten u.rest=(d,n):=⟨_,_,rfl⟩;have HT:qk (∀w,qn qi 112 #[.string u.rest] w fun e T=>e=.returned (.tuple #[.int .i64 (d:Int),.int .i64 (n:Int)])/\qg w.heap.size w T):=vv fun w=>by have:=qeu u.rest w;rw[hn] at this;exact this
 have HN:=vv hn;have U:=vv fun w=>qdn u.rest ⟨#[95]⟩ w
 have M:=vv fun w=>qdn u.rest ⟨#[46]⟩ w
 simp only[show(⟨#[95]⟩:ByteArray).data.toList=[95] from rfl] at U;simp only[show(⟨#[46]⟩:ByteArray).data.toList=[46] from rfl] at M;clear h hg hm hn;go_enter func66,ntmps66;go_wp2_with fail;obtain⟨w0,N⟩:=yx (w.alloc (.cells #[.int .u8 0,.bool qa,.bool qa,.string ⟨#[]⟩,.int .i64 0,.bool qa,.slice qc 0 0,.int .i64 0,.int .u64 0] 92));rw[<- N];have b3:w.grownBy w0 (qh b):=by rw[N];exact q0x (qm w _) _
 have c3:qk (Blk w0 w.heap.size 92 q1o):=vv (by rw[N];exact Blk.made w _ q1o);have a1:ScAt w0 b s:=S.o.grown (row:=qc) (by rw[N];exact q0x (qm w _) _) (fun k e=>by cases e);have c4:=vv b3;have c5:=vv (b2.o w0 a1);clear b3 a1 N;refine c5.o.mono ?_;rintro e w1 ⟨rfl,g,f⟩;have H:=vv g;have b4:=vv (q00 c4.o f);have b5:=vv (c3.o.grown f (fun e=>l.o (by injection e)));clear g f;have c0:=H.o.c0;have hl:=H.o.lt;cases hp:pre u.rest [95] with
 | true =>rw[hp] at U;have z:qk (s.number=(Num.none_,u.put 112)):=vv (by unfold St.number;rw[HM.o];dsimp only;rw[hp,if_pos rfl]);have c2:=H.o.c2;have f2:=H.o.fz 2;have W:=vv (H.o.put 112);have X:=vv (q00 b4.o (q0W (.int .i64 112)));have Y:=vv (b5.o.grown (q0W (b:=b) (.int .i64 112)) (fun e=>l.o (by injection e)));clear hp;go_wp2_with fail;refine(U.o _).mono ?_;rintro e T ⟨rfl,rfl⟩;go_wp2_with (with_reducible refine q05 rfl 92 (.tmp 2) (.tmp 16) rfl w.heap.size [.int .u8 0,.bool qa,.bool qa,.string ⟨#[]⟩,.int .i64 0,.bool qa,.slice qc 0 0,.int .i64 0,.int .u64 0] rfl rfl 92 q1o Y.o (by kernel_rfl) rfl rfl ?_);intro L j i;have r:=vv (W.o.grown i (fun k e=>by cases e;exact fun e=>l.o e.symm));have t:=vv (q0e X.o i (fun k e=>by cases e;exact lr));have y:=vv j;clear j i;go_wp2;rw[z.o];exact qb (qd rfl _ _ _ _ _ _ _ rfl y.o underlying92 rfl (by kernel_rfl)) rfl ⟨qc,0,0,rfl,Rd.nil _,Fr.none_ _,r.o,t.o⟩
 | false =>
  rw[hp] at U;have hQ:s.number=if u.fold [48,120] then(u.skip 2).hex p else if 0<n\/pre u.rest [46]=qj then u.decimal p else if u.fold [105,110,102,105,110,105,116,121] then(⟨3,p,qa,[],0,qa,0,0,0⟩,u.skip 8) else if u.fold [105,110,102] then(⟨3,p,qa,[],0,qa,0,0,0⟩,u.skip 3) else if u.fold [110,97,110] then(⟨4,p,qa,[],0,qa,0,0,(u.skip 3).payload.1⟩,(u.skip 3).payload.2) else(Num.none_,u.fail 110):=by unfold St.number;rw[HM.o];dsimp only;rw[hp,HN.o];rfl
  have HQ:=vv hQ;clear hp hQ;go_wp2_with fail;refine(U.o _).mono ?_;rintro e T ⟨rfl,rfl⟩;go_wp2_with fail;refine(HT.o _).mono ?_;rintro e w2 ⟨rfl,j⟩;have W:=vv (H.o.below j H.o.lt);have X:=vv (q00 b4.o (q03 j _));have Y:=vv (b5.o.below j);clear j c0 hl;cases h1:u.fold [48,120] with
  | true =>
   obtain⟨x,v,hx⟩:∃x v,(u.skip 2).hex p=(x,v):=⟨_,_,rfl⟩;have z:qk (s.number=(x,v)):=vv (by rw[HQ.o,h1,if_pos rfl,hx]);have q:=vv (q7g b u ⟨#[48,120]⟩ w2 W.o (by decide) h1);have G:=vv fun w h hg=>hex b (u.skip 2) p w h hg
   rw[hx] at G;clear h1 hx;go_wp2_with fail;refine q.o.mono ?_;rintro e w3 ⟨rfl,g,f⟩;have I:=vv g;have J:=vv (q00 X.o f);have C:=vv (Y.o.grown f (fun e=>l.o (by injection e)));clear g f;go_wp2_with fail;refine(G.o _ I.o (HG.o.grown J.o S.o)).mono ?_;rintro e V ⟨A,m,c,rfl,O,K,g,f⟩;have a4:=vv O;have a5:qk (∀a,A=qh a->a.block≠w.heap.size):=vv (fun a e=>by have:=(K a e).1;have:=C.o.lt;omega);have a6:qk (Fr w.heap.size A):=vv (K.mono (k1j C.o.lt));clear O K;have D:=vv g;have E:=vv (q00 J.o f);have F:=vv (C.o.grown f (fun e=>l.o (by injection e)));clear g f;go_wp2_with (with_reducible refine q05 rfl 92 (.tmp 2) (.tmp 30) rfl w.heap.size [.int .u8 (x.kind:Int),.bool x.neg,.bool x.dneg,.string ⟨x.digits.toArray⟩,.int .i64 x.exp,.bool x.hneg,.slice A m c,.int .i64 x.hexp,.int .u64 (x.payload:Int)] rfl rfl 92 q1o F.o (by kernel_rfl) rfl rfl ?_);intro L j i;have r:=vv (D.o.grown i (fun k e=>by cases e;exact fun e=>l.o e.symm));have t:=vv (q0e E.o i (fun k e=>by cases e;exact lr));have y:=vv j;have a0:=vv (a4.o.only i a5.o);clear j i;go_wp2;rw[z.o];exact qb (qd rfl _ _ _ _ _ _ _ rfl y.o underlying92 rfl (by kernel_rfl)) rfl ⟨A,m,c,rfl,a0.o,a6.o,r.o,t.o⟩
  | false =>
   have q:=vv (q7h b u ⟨#[48,120]⟩ w2 W.o (by decide) h1);have b6:=vv (show s.number=_ by rw[HQ.o,h1,if_neg (by decide)]);clear h1;go_wp2_with fail;refine q.o.mono ?_;rintro e w3 ⟨rfl,g,f⟩;have I:=vv g;have J:=vv (q00 X.o f);have C:=vv (Y.o.grown f (fun e=>l.o (by injection e)));clear g f;have c0:=I.o.c0;have hl:=I.o.lt;by_cases hdec:0<n\/pre u.rest [46]=qj
   ·obtain⟨x,v,hx⟩:∃x v,u.decimal p=(x,v):=⟨_,_,rfl⟩;have z:qk (s.number=(x,v)):=vv (by rw[b6.o,if_pos hdec,hx]);have G:=vv fun w h hg=>decimal b u p w h hg
    rw[hx] at G;clear hx;have hc:(qf ((0:Int)<(n:Int))=qj)\/(qf ((0:Int)<(n:Int))=qa/\pre u.rest [46]=qj):=by
     rcases k04 n with e|e
     ·exact .inr ⟨k00 (by omega),hdec.resolve_left (by omega)⟩
     ·exact .inl (k03 (by omega))
    clear hdec;rcases hc with P|⟨P,Q⟩
    case' inl =>have b7:(0:Int)<(n:Int):=k22 P;clear P;go_wp2_with fail
    case' inr =>
     have b7:¬(0:Int)<(n:Int):=of_decide_eq_false P;rw[Q] at M;have c6:n=0:=by omega
     subst c6;clear P b7 Q;go_wp2_with fail;refine(M.o _).mono ?_;rintro e T ⟨rfl,rfl⟩;go_wp2_with fail
    all_goals
     refine(G.o _ I.o (HG.o.grown J.o S.o)).mono ?_;rintro e V ⟨A,m,c,rfl,O,K,g,f⟩;have a4:=vv O;have a5:qk (∀a,A=qh a->a.block≠w.heap.size):=vv (fun a e=>by have:=(K a e).1;have:=C.o.lt;omega);have a6:qk (Fr w.heap.size A):=vv (K.mono (k1j C.o.lt));clear O K;have D:=vv g;have E:=vv (q00 J.o f);have F:=vv (C.o.grown f (fun e=>l.o (by injection e)));clear g f;go_wp2_with (with_reducible refine q05 rfl 92 (.tmp 2) (.tmp 43) rfl w.heap.size [.int .u8 (x.kind:Int),.bool x.neg,.bool x.dneg,.string ⟨x.digits.toArray⟩,.int .i64 x.exp,.bool x.hneg,.slice A m c,.int .i64 x.hexp,.int .u64 (x.payload:Int)] rfl rfl 92 q1o F.o (by kernel_rfl) rfl rfl ?_);intro L j i;have r:=vv (D.o.grown i (fun k e=>by cases e;exact fun e=>l.o e.symm));have t:=vv (q0e E.o i (fun k e=>by cases e;exact lr));have y:=vv j;have a0:=vv (a4.o.only i a5.o);clear j i;go_wp2;rw[z.o];exact qb (qd rfl _ _ _ _ _ _ _ rfl y.o underlying92 rfl (by kernel_rfl)) rfl ⟨A,m,c,rfl,a0.o,a6.o,r.o,t.o⟩
   ·have c7:n=0:=by omega
    subst c7;have Q:pre u.rest [46]=qa:=by
     cases h:pre u.rest [46] with
     | false=>rfl
     | true=>exact absurd (.inr h) hdec
    rw[Q] at M;have b8:=vv (show s.number=_ by rw[b6.o,if_neg hdec]);clear hdec Q;go_wp2_with fail;refine(M.o _).mono ?_;rintro e T ⟨rfl,rfl⟩;clear c0 hl;cases h2:u.fold [105,110,102,105,110,105,116,121] with
    | true =>have q:=vv (q7g b u ⟨#[105,110,102,105,110,105,116,121]⟩ w3 I.o (by decide) h2);have z:=vv (show s.number=_ by rw[b8.o,h2,if_pos rfl]);clear h2;go_wp2_with fail;refine q.o.mono ?_;rintro e V ⟨rfl,g,f⟩;have D:=vv g;have E:=vv (q00 J.o f);have F:=vv (C.o.grown f (fun e=>l.o (by injection e)));clear g f;go_wp2_with (with_reducible refine q05 rfl 92 (.tmp 2) (.tmp 52) rfl w.heap.size [.int .u8 3,.bool p,.bool qa,.string ⟨#[]⟩,.int .i64 0,.bool qa,.slice qc 0 0,.int .i64 0,.int .u64 0] rfl rfl 92 q1o F.o (by kernel_rfl) rfl rfl ?_);intro L j i;have r:=vv (D.o.grown i (fun k e=>by cases e;exact fun e=>l.o e.symm));have t:=vv (q0e E.o i (fun k e=>by cases e;exact lr));have y:=vv j;clear j i;go_wp2;rw[z.o];exact qb (qd rfl _ _ _ _ _ _ _ rfl y.o underlying92 rfl (by kernel_rfl)) rfl ⟨qc,0,0,rfl,Rd.nil _,Fr.none_ _,r.o,t.o⟩
    | false =>
     have q:=vv (q7h b u ⟨#[105,110,102,105,110,105,116,121]⟩ w3 I.o (by decide) h2);have b9:=vv (show s.number=_ by rw[b8.o,h2,if_neg (by decide)]);clear h2;go_wp2_with fail;refine q.o.mono ?_;rintro e V ⟨rfl,g,f⟩;have D:=vv g;have E:=vv (q00 J.o f);have F:=vv (C.o.grown f (fun e=>l.o (by injection e)));clear g f;cases h3:u.fold [105,110,102] with
     | true =>have q:=vv (q7g b u ⟨#[105,110,102]⟩ V D.o (by decide) h3);have z:=vv (show s.number=_ by rw[b9.o,h3,if_pos rfl]);clear h3;go_wp2_with fail;refine q.o.mono ?_;rintro e w5 ⟨rfl,g,f⟩;have Z:=vv g;have a2:=vv (q00 E.o f);have a3:=vv (F.o.grown f (fun e=>l.o (by injection e)));clear g f;go_wp2_with (with_reducible refine q05 rfl 92 (.tmp 2) (.tmp 52) rfl w.heap.size [.int .u8 3,.bool p,.bool qa,.string ⟨#[]⟩,.int .i64 0,.bool qa,.slice qc 0 0,.int .i64 0,.int .u64 0] rfl rfl 92 q1o a3.o (by kernel_rfl) rfl rfl ?_);intro L j i;have r:=vv (Z.o.grown i (fun k e=>by cases e;exact fun e=>l.o e.symm));have t:=vv (q0e a2.o i (fun k e=>by cases e;exact lr));have y:=vv j;clear j i;go_wp2;rw[z.o];exact qb (qd rfl _ _ _ _ _ _ _ rfl y.o underlying92 rfl (by kernel_rfl)) rfl ⟨qc,0,0,rfl,Rd.nil _,Fr.none_ _,r.o,t.o⟩
     | false =>
      have q:=vv (q7h b u ⟨#[105,110,102]⟩ V D.o (by decide) h3);have c1:=vv (show s.number=_ by rw[b9.o,h3,if_neg (by decide)]);clear h3;go_wp2_with fail;refine q.o.mono ?_;rintro e w5 ⟨rfl,g,f⟩;have Z:=vv g;have a2:=vv (q00 E.o f);have a3:=vv (F.o.grown f (fun e=>l.o (by injection e)));clear g f;cases h4:u.fold [110,97,110] with
      | true =>
       obtain⟨pl,v,hx⟩:∃pl v,(u.skip 3).payload=(pl,v):=⟨_,_,rfl⟩;have q:=vv (q7g b u ⟨#[110,97,110]⟩ w5 Z.o (by decide) h4);have z:qk (s.number=(⟨4,p,qa,[],0,qa,0,0,pl⟩,v)):=vv (by rw[c1.o,h4,if_pos rfl,hx]);have G:=vv fun w h hg=>payload b (u.skip 3) w h hg
       rw[hx] at G;clear h4 hx;go_wp2_with fail;refine q.o.mono ?_;rintro e w6 ⟨rfl,g,f⟩;have a7:=vv g;have R:=vv (q00 a2.o f);have a8:=vv (a3.o.grown f (fun e=>l.o (by injection e)));clear g f;go_wp2_with fail;refine(G.o _ a7.o (HG.o.grown R.o S.o)).mono ?_;rintro e w7 ⟨rfl,g,f⟩;have a9:=vv g;have b0:=vv (q00 R.o f);have b1:=vv (a8.o.grown f (fun e=>l.o (by injection e)));clear g f;go_wp2_with (with_reducible refine q05 rfl 92 (.tmp 2) (.tmp 59) rfl w.heap.size [.int .u8 4,.bool p,.bool qa,.string ⟨#[]⟩,.int .i64 0,.bool qa,.slice qc 0 0,.int .i64 0,.int .u64 (pl:Int)] rfl rfl 92 q1o b1.o (by kernel_rfl) rfl rfl ?_);intro L j i;have r:=vv (a9.o.grown i (fun k e=>by cases e;exact fun e=>l.o e.symm));have t:=vv (q0e b0.o i (fun k e=>by cases e;exact lr));have y:=vv j;clear j i;go_wp2;rw[z.o];exact qb (qd rfl _ _ _ _ _ _ _ rfl y.o underlying92 rfl (by kernel_rfl)) rfl ⟨qc,0,0,rfl,Rd.nil _,Fr.none_ _,r.o,t.o⟩
      | false =>have q:=vv (q7h b u ⟨#[110,97,110]⟩ w5 Z.o (by decide) h4);have z:=vv (show s.number=_ by rw[c1.o,h4,if_neg (by decide)]);clear h4;go_wp2_with fail;refine q.o.mono ?_;rintro e w6 ⟨rfl,g,f⟩;have a7:=vv g;have R:=vv (q00 a2.o f);have a8:=vv (a3.o.grown f (fun e=>l.o (by injection e)));clear g f;go_wp2_with fail;refine(fail b u 110 _ a7.o (HG.o.grown R.o S.o)).mono ?_;rintro e w7 ⟨rfl,g,f⟩;have a9:=vv g;have b0:=vv (q00 R.o f);have b1:=vv (a8.o.grown f (fun e=>l.o (by injection e)));clear g f;go_wp2_with (with_reducible refine q05 rfl 92 (.tmp 2) (.tmp 62) rfl w.heap.size [.int .u8 0,.bool qa,.bool qa,.string ⟨#[]⟩,.int .i64 0,.bool qa,.slice qc 0 0,.int .i64 0,.int .u64 0] rfl rfl 92 q1o b1.o (by kernel_rfl) rfl rfl ?_);intro L j i;have r:=vv (a9.o.grown i (fun k e=>by cases e;exact fun e=>l.o e.symm));have t:=vv (q0e b0.o i (fun k e=>by cases e;exact lr));have y:=vv j;clear j i;go_wp2;rw[z.o];exact qb (qd rfl _ _ _ _ _ _ _ rfl y.o underlying92 rfl (by kernel_rfl)) rfl ⟨qc,0,0,rfl,Rd.nil _,Fr.none_ _,r.o,t.o⟩
def qdP(x:Num)(w:ql)(e:Ending)(w':ql):Prop:=
 ∃A m c,e=.returned (.tuple #[numV x A m c,.nilIface])/\Rd w' A m c (toL x.mant)/\Fr w.heap.size A/\qg w.heap.size w w'
def qcM(code pos:Nat)(w:ql)(e:Ending)(w':ql):Prop:=
 ∃g,e=.returned (.tuple #[numV Num.none_ qc 0 0,.iface 141 (.pointer (qh ⟨g,0,qc⟩))])/\w.heap.size<=g/\Blk w' g 143 [.int .i64 (code:Int),.int .i64 (pos:Int)]/\qg w.heap.size w w'
def qem(r:Num × Nat × Nat)(w:ql)(e:Ending)(w':ql):Prop:=(r.2.1=0/\qdP r.1 w e w')\/(r.2.1≠0/\qcM r.2.1 r.2.2 w e w')
theorem q9y{s:St}{c:Nat}(h:s.code=0)(hc:c≠0):(s.fail c).code≠0:=by
 unfold St.fail;rw[if_pos h];split
 ·show(114:Nat)≠0;decide
 ·exact hc
theorem q16{P:Program}{o:Oper}{a:Act}{w:ql}{K:Act->ql->Prop}{Q:Exit->Act->ql->Prop}(ty:TypeId)(x y:Operand)(ho:o.op=.store ty x y)
  (g:Nat) (cells:List Value) (hx:a.eval x=.pointer (qh ⟨g,0,qc⟩)) (hy:a.eval y=.agg cells.toArray)
  (t:TypeId) (old:List Value) (hg:Blk w g t old) (hi:(P.info? ty).map (·.size)=qh cells.length)
  (hold:old.length=cells.length) (h1:cells.all (·.oneCell')=qj)
  (h:∀w',Blk w' g t cells->w.grownBy w' (qh g)->K (a.put o.dst undef) w'):o.wp P a w K Q:=by
 refine wp_store_row ty x y ho g cells.toArray hx hy t old.toArray hg (by simpa using hi) (by simpa using hold) (by simpa using h1) (h _ (setRow_heap w g _ _ t _ hg) ⟨rfl,rfl,rfl,by simp [World.setRow],fun i hi b=>?_⟩);unfold World.setRow;rw[k1S,if_neg (fun e=>b (by rw[e]))]
theorem Read(s:ByteArray)(w:ql)(hg:Bg w):qn qi 50 #[.string s] w (qem (read s) w):=by
 have HG:=vv hg;obtain⟨F,Z⟩:=yx (w.alloc (.cells #[.int .u8 0,.bool qa,.bool qa,.string ⟨#[]⟩,.int .i64 0,.bool qa,.slice qc 0 0,.int .i64 0,.int .u64 0] 92));have c7:qg w.heap.size w F:=by rw[Z];exact(qe _ _).alloc lr _
 have d1:qk (Blk F w.heap.size 92 q1o):=vv (by rw[Z];exact Blk.made w _ q1o);have d2:qk (F.heap.size=w.heap.size+1):=vv (by rw[Z];simp);have d3:=vv c7;have d4:=vv Z;clear c7 Z hg;by_cases hs:65536<s.size
 ·have HE:qk (read s=(Num.none_,3,0)):=vv (by unfold read;rw[if_pos hs]);have d5:(65536:Int)<(s.size:Int):=by omega
  clear hs;go_enter func50,ntmps50;go_wp2;rw[HE.o];exact qb (v:=.tuple #[numV Num.none_ qc 0 0,.iface 141 (.pointer (qh ⟨w.heap.size+1,0,qc⟩))]) (by simp [results,results50,go_sem,numV,Num.none_]) rfl (.inr ⟨by decide,w.heap.size+1,rfl,k1s _,by have:=Blk.made (w.alloc (.cells #[.int .u8 0,.bool qa,.bool qa,.string ⟨#[]⟩,.int .i64 0,.bool qa,.slice qc 0 0,.int .i64 0,.int .u64 0] 92)) 143 [.int .i64 3,.int .i64 0];rw[World.size_alloc] at this;exact this,((qe _ _).alloc lr _).alloc (by simp) _⟩)
 ·obtain⟨x,u,hx⟩:∃x u,(St.mk s 0 0).number=(x,u):=⟨_,_,rfl⟩;have hE:read s=if(if u.code=0/\u.rest.size≠0 then u.fail 113 else u).code=0 then(x,0,0) else(Num.none_,(if u.code=0/\u.rest.size≠0 then u.fail 113 else u).code,(if u.code=0/\u.rest.size≠0 then u.fail 113 else u).pos):=by unfold read;rw[if_neg hs,hx]
  have d5:(s.size:Int)<=65536:=by omega
  obtain⟨w1,a7⟩:=yx (F.alloc (.cells #[.string s,.int .i64 0,.int .i64 0] 146));have b0:qg F.heap.size F w1:=by rw[a7];exact(qe _ _).alloc lr _
  have b1:ScAt w1 F.heap.size ⟨s,0,0⟩:=by rw[a7];exact ScAt.made F s _ (by omega)
  have a8:=vn d3 b0;have c8:=vv (d1.o.below b0);have HN:=vv (number F.heap.size ⟨s,0,0⟩ w1 b1 (HG.o.below a8.o));rw[hx] at HN;have c9:=vv a7;have c5:=vv b1;have HE:=vv hE;rw[d2.o] at HN c5;rw[d4.o] at c9;clear hs hx hE a7 b0 b1;go_enter func50,ntmps50;go_wp2_with fail;rw[<- c9.o];refine HN.o.mono ?_;rintro e G ⟨A,m,c,he,d0,b2,Q,U⟩;rw[show numV x A m c=.agg #[.int .u8 (x.kind:Int),.bool x.neg,.bool x.dneg,.string ⟨x.digits.toArray⟩,.int .i64 x.exp,.bool x.hneg,.slice A m c,.int .i64 x.hexp,.int .u64 (x.payload:Int)] from rfl] at he;subst he;have d6:=vv d0;have a9:=vv Q;have b3:=vv (c8.o.grown U (fun e=>by injection e with e;omega));have a0:=vv (q0h a8.o U (by have:=a8.o.size;omega) (k1s _));have d7:=vv (b2.mono (by have:=a8.o.size;omega:w.heap.size<=w1.heap.size));have d8:qk (∀a,A=qh a->a.block≠w.heap.size):=vv (fun a e=>by have:=(b2 a e).1;have:=c8.o.lt;omega);have c0:=Q.c0;have c2:=Q.c2;have hl:=Q.lt;clear d0 Q b2 U;by_cases hc:u.code=0
  ·have t0:((u.code:Int)==0)=qj:=by rw[hc];rfl
   by_cases hr:u.rest.size=0
   ·have S:qk (read s=(x,0,0)):=vv (by have a1:(if u.code=0/\u.rest.size≠0 then u.fail 113 else u)=u:=if_neg (fun h=>h.2 hr);rw[HE.o,a1,if_pos hc]);obtain⟨R,hR⟩:=yx (u.rest);rw[<- hR] at c0 hr;obtain rfl:R=⟨#[]⟩:=ByteArray.ext (k1e hr);have t1:((u.code:Int) != 0)=qa:=by rw[hc];rfl
    clear hR hr hc;go_wp2_with (with_reducible refine q05 rfl 92 (.tmp 2) (.tmp 51) rfl w.heap.size [.int .u8 (x.kind:Int),.bool x.neg,.bool x.dneg,.string ⟨x.digits.toArray⟩,.int .i64 x.exp,.bool x.hneg,.slice A m c,.int .i64 x.hexp,.int .u64 (x.payload:Int)] rfl rfl 92 q1o (b3.o.alloc _) (by kernel_rfl) rfl rfl ?_);intro j C b;have b4:qg G.heap.size G (G.alloc (.cells #[.int .u8 (x.kind:Int),.bool x.neg,.bool x.dneg,.string ⟨x.digits.toArray⟩,.int .i64 x.exp,.bool x.hneg,.slice A m c,.int .i64 x.hexp,.int .u64 (x.payload:Int)] 92)):=(qe _ _).alloc lr _;have c6:=vv ((d6.o.below b4 rfl).only b d8.o);have a2:=vv (q0h (a0.o.trans (b4.mono a0.o.size)) b (by have:=a0.o.size;simp;omega) lr);have H:=vv C;clear C b b4;go_wp2;obtain⟨I,q,r,J,L,M,N,O,P⟩:=H.o.num;rw[S.o];exact qb (v:=.tuple #[numV x A m c,.nilIface]) (by simp [results,results50,go_sem,I,q,r,J,L,M,N,O,P,numV]) rfl (.inl ⟨rfl,A,m,c,rfl,c6.o,d7.o,a2.o⟩)
   ·obtain⟨v,hv⟩:=yx (u.fail 113);have b5:v.code≠0:=by rw[hv];exact q9y hc (by decide)
    have S:qk (read s=(Num.none_,v.code,v.pos)):=vv (by
     have a1:(if u.code=0/\u.rest.size≠0 then u.fail 113 else u)=v:=by rw[if_pos ⟨hc,hr⟩,hv]
     rw[HE.o,a1,if_neg b5])
    have V:=vv b5;obtain⟨R,hR⟩:=yx (u.rest);rw[<- hR] at c0 hr;have e1:=q1R (s:=R) (by omega);obtain⟨w3,T⟩:=yx (G.alloc (.cells #[.int .u8 (x.kind:Int),.bool x.neg,.bool x.dneg,.string ⟨x.digits.toArray⟩,.int .i64 x.exp,.bool x.hneg,.slice A m c,.int .i64 x.hexp,.int .u64 (x.payload:Int)] 92));have E:qg G.heap.size G w3:=by rw[T];exact(qe _ _).alloc lr _
    have b6:=vv (b3.o.below E);have a3:=vn a0 E;have HF:=vv (fail (w.heap.size+1) u 113 w3 (a9.o.below E a9.o.lt) (HG.o.below a3.o));rw[<- hv] at HF;have b7:=vv T;clear hR hr hc hv b5 T E;go_wp2_with fail;rw[<- b7.o];refine HF.o.mono ?_;rintro e w4 ⟨rfl,Q,U⟩;have b8:=vv Q;have d9:=vv (b6.o.grown U (fun e=>by injection e with e;omega));have e0:=vv (q0h a3.o U (by have:=a3.o.size;omega) (k1s _));clear Q U;have a6:((v.code:Int) != 0)=qj:=by rw[k1r];have:=V.o;omega
    have q:=b8.o.c1;have r:=b8.o.c2;have kl:=b8.o.lt;go_wp2_with fail;refine q02 (fun w'=>w'.cell? ⟨w.heap.size+1,1,qc⟩=qh (.int .i64 (v.pos:Int))/\w'.cell? ⟨w.heap.size+1,2,qc⟩=qh (.int .i64 (v.code:Int))) 14
     (.still 0 (.still 1 (.still 2 (.still 3 (.still 4 (.still 5 (.still 6 (.still 7 (.still 8 (.still 9 (.still 10 (.two 11 (.still 12 (.one 13 .done)) 13 (.one 11 (.still 12 .done)))))))))))))) (by kernel_rfl) (by kernel_rfl) (fun _ _ d _ _ h=>by cases d<;>exact h) ⟨q,r⟩ (fun hS0=>?_)
    obtain⟨f,D⟩:=yx (World.drew w4);have k:qk (qg w.heap.size w f):=vv (by rw[D];exact q07 e0.o);have a4:qk (Blk f w.heap.size 92 q1o):=vv (by rw[D];exact d9.o);have g:qk (w.heap.size+1<f.heap.size):=vv (by rw[D];exact kl);have t:qk (f.cell? ⟨w.heap.size+1,1,qc⟩=qh (.int .i64 (v.pos:Int))/\f.cell? ⟨w.heap.size+1,2,qc⟩=qh (.int .i64 (v.code:Int))):=vv (by rw[D];exact⟨q,r⟩);rw[<- D] at hS0 ⊢;clear D q r kl
    iterate 11
     refine q01 (v:=?_) rfl (by rfl) ?_ ?_;rotate_left
     ·intro w a5;go_simp;with_reducible rfl
     simp only[Act.put,sa,sb,sc]
    refine q13 rfl (by rfl) rfl (by rfl) (fun K hK=>?_) (fun K hK=>?_)
    ·go_simp;have l:qg f.heap.size f (f.alloc (.cells #[.int .i64 (v.code:Int),.int .i64 (v.pos:Int)] 143)):=(qe _ _).alloc lr _;have z:=vv (Blk.made f 143 [.int .i64 (v.code:Int),.int .i64 (v.pos:Int)]);obtain⟨W,y⟩:=yx (f.alloc (.cells #[.int .i64 (v.code:Int),.int .i64 (v.pos:Int)] 143));have z:qk (Blk W f.heap.size 143 [.int .i64 (v.code:Int),.int .i64 (v.pos:Int)]):=vv (by rw[y];exact z.o);rw[<- y] at l ⊢;have i:=vv l;clear y l;refine hK.out _ _ ⟨(i.o.cell (p:=⟨w.heap.size+1,1,qc⟩) g.o).trans t.o.1,(i.o.cell (p:=⟨w.heap.size+1,2,qc⟩) g.o).trans t.o.2⟩ (fun n=>?_);clear hK hS0
     iterate 1
      refine q01 (v:=?_) rfl (by rfl) ?_ ?_;rotate_left
      ·intro w a5;go_simp;with_reducible rfl
      simp only[Act.put,sa,sb,sc]
     refine q04 rfl (by rfl) (fun K hK=>?_);refine q16 92 (.tmp 2) (.tmp 38) rfl w.heap.size [.int .u8 0,.bool qa,.bool qa,.string ⟨#[]⟩,.int .i64 0,.bool qa,.slice qc 0 0,.int .i64 0,.int .u64 0] rfl rfl 92 q1o (a4.o.below i.o) (by kernel_rfl) rfl rfl (fun j C b=>?_);have H:=vv C;have b9:=vv (z.o.grown b (fun e=>by injection e with e;have:=g.o;omega));have a2:=vv (q0h (k.o.trans (i.o.mono k.o.size)) b (k06 k.o.size i.o.size) lr);refine hK.out _ _ ⟨(q0u b (p:=⟨w.heap.size+1,1,qc⟩) (k01 g.o i.o.size) (by simp)).trans n.1,(q0u b (p:=⟨w.heap.size+1,2,qc⟩) (k01 g.o i.o.size) (by simp)).trans n.2⟩ (fun n=>?_);clear hK C b n;refine q0a ?_;go_wp2;obtain⟨I,q,r,J,L,M,N,O,P⟩:=H.o.num;rw[S.o];exact qb (v:=.tuple #[numV Num.none_ qc 0 0,.iface 141 (.pointer (qh ⟨f.heap.size,0,qc⟩))]) (by simp [results,results50,go_sem,I,q,r,J,L,M,N,O,P,numV,Num.none_]) rfl (.inr ⟨V.o,f.heap.size,rfl,k.o.size,b9.o,a2.o⟩)
    ·refine q16 92 (.tmp 2) (.tmp 38) rfl w.heap.size [.int .u8 0,.bool qa,.bool qa,.string ⟨#[]⟩,.int .i64 0,.bool qa,.slice qc 0 0,.int .i64 0,.int .u64 0] rfl rfl 92 q1o a4.o (by kernel_rfl) rfl rfl (fun j C b=>?_);have H:=vv C;have k:qk (qg w.heap.size w j):=vv (q0h k.o b k.o.size lr);have X:=(q0u b (p:=⟨w.heap.size+1,1,qc⟩) g.o (by simp)).trans t.o.1;have Y:=(q0u b (p:=⟨w.heap.size+1,2,qc⟩) g.o (by simp)).trans t.o.2;have t:=vv (And.intro X Y);have g:=vv (k01 g.o b.size);refine hK.out _ _ ⟨X,Y⟩ (fun n=>?_);clear hK C b n X Y hS0;refine q04 rfl (by rfl) (fun K hK=>?_);go_simp;have l:qg j.heap.size j (j.alloc (.cells #[.int .i64 (v.code:Int),.int .i64 (v.pos:Int)] 143)):=(qe _ _).alloc lr _;have z:=vv (Blk.made j 143 [.int .i64 (v.code:Int),.int .i64 (v.pos:Int)]);obtain⟨W,y⟩:=yx (j.alloc (.cells #[.int .i64 (v.code:Int),.int .i64 (v.pos:Int)] 143));have z:qk (Blk W j.heap.size 143 [.int .i64 (v.code:Int),.int .i64 (v.pos:Int)]):=vv (by rw[y];exact z.o);rw[<- y] at l ⊢;have i:=vv l;have c3:=vv (H.o.below l);clear y l;refine hK.out _ _ ⟨(i.o.cell (p:=⟨w.heap.size+1,1,qc⟩) g.o).trans t.o.1,(i.o.cell (p:=⟨w.heap.size+1,2,qc⟩) g.o).trans t.o.2⟩ (fun n=>?_);clear hK n
     iterate 1
      refine q01 (v:=?_) rfl (by rfl) ?_ ?_;rotate_left
      ·intro w a5;go_simp;with_reducible rfl
      simp only[Act.put,sa,sb,sc]
     refine q0a ?_;go_wp2;obtain⟨I,q,r,J,L,M,N,O,P⟩:=c3.o.num;rw[S.o];exact qb (v:=.tuple #[numV Num.none_ qc 0 0,.iface 141 (.pointer (qh ⟨j.heap.size,0,qc⟩))]) (by simp [results,results50,go_sem,I,q,r,J,L,M,N,O,P,numV,Num.none_]) rfl (.inr ⟨V.o,j.heap.size,rfl,k.o.size,z.o,k.o.trans (i.o.mono k.o.size)⟩)
  ·have V:=vv hc;have S:qk (read s=(Num.none_,u.code,u.pos)):=vv (by have a1:(if u.code=0/\u.rest.size≠0 then u.fail 113 else u)=u:=if_neg (fun h=>hc h.1);rw[HE.o,a1,if_neg hc]);have t0:((u.code:Int)==0)=qa:=by rw[k02];omega
   obtain⟨w3,T⟩:=yx (G.alloc (.cells #[.int .u8 (x.kind:Int),.bool x.neg,.bool x.dneg,.string ⟨x.digits.toArray⟩,.int .i64 x.exp,.bool x.hneg,.slice A m c,.int .i64 x.hexp,.int .u64 (x.payload:Int)] 92));have E:qg G.heap.size G w3:=by rw[T];exact(qe _ _).alloc lr _
   have b6:=vv (b3.o.below E);have a3:=vn a0 E;have c4:=vv (a9.o.below E a9.o.lt);have b7:=vv T;clear hc T E;have a6:((u.code:Int) != 0)=qj:=by rw[k1r];have:=V.o;omega
   have q:=c4.o.c1;have r:=c4.o.c2;have kl:=c4.o.lt;go_wp2_with fail;rw[<- b7.o];refine q02 (fun w'=>w'.cell? ⟨w.heap.size+1,1,qc⟩=qh (.int .i64 (u.pos:Int))/\w'.cell? ⟨w.heap.size+1,2,qc⟩=qh (.int .i64 (u.code:Int))) 14
    (.still 0 (.still 1 (.still 2 (.still 3 (.still 4 (.still 5 (.still 6 (.still 7 (.still 8 (.still 9 (.still 10 (.two 11 (.still 12 (.one 13 .done)) 13 (.one 11 (.still 12 .done)))))))))))))) (by kernel_rfl) (by kernel_rfl) (fun _ _ d _ _ h=>by cases d<;>exact h) ⟨q,r⟩ (fun hS0=>?_)
   obtain⟨f,D⟩:=yx (World.drew w3);have k:qk (qg w.heap.size w f):=vv (by rw[D];exact q07 a3.o);have a4:qk (Blk f w.heap.size 92 q1o):=vv (by rw[D];exact b6.o);have g:qk (w.heap.size+1<f.heap.size):=vv (by rw[D];exact kl);have t:qk (f.cell? ⟨w.heap.size+1,1,qc⟩=qh (.int .i64 (u.pos:Int))/\f.cell? ⟨w.heap.size+1,2,qc⟩=qh (.int .i64 (u.code:Int))):=vv (by rw[D];exact⟨q,r⟩);rw[<- D] at hS0 ⊢;clear D q r kl
   iterate 11
    refine q01 (v:=?_) rfl (by rfl) ?_ ?_;rotate_left
    ·intro w a5;go_simp;with_reducible rfl
    simp only[Act.put,sa,sb,sc]
   refine q13 rfl (by rfl) rfl (by rfl) (fun K hK=>?_) (fun K hK=>?_)
   ·go_simp;have l:qg f.heap.size f (f.alloc (.cells #[.int .i64 (u.code:Int),.int .i64 (u.pos:Int)] 143)):=(qe _ _).alloc lr _;have z:=vv (Blk.made f 143 [.int .i64 (u.code:Int),.int .i64 (u.pos:Int)]);obtain⟨W,y⟩:=yx (f.alloc (.cells #[.int .i64 (u.code:Int),.int .i64 (u.pos:Int)] 143));have z:qk (Blk W f.heap.size 143 [.int .i64 (u.code:Int),.int .i64 (u.pos:Int)]):=vv (by rw[y];exact z.o);rw[<- y] at l ⊢;have i:=vv l;clear y l;refine hK.out _ _ ⟨(i.o.cell (p:=⟨w.heap.size+1,1,qc⟩) g.o).trans t.o.1,(i.o.cell (p:=⟨w.heap.size+1,2,qc⟩) g.o).trans t.o.2⟩ (fun n=>?_);clear hK hS0
    iterate 1
     refine q01 (v:=?_) rfl (by rfl) ?_ ?_;rotate_left
     ·intro w a5;go_simp;with_reducible rfl
     simp only[Act.put,sa,sb,sc]
    refine q04 rfl (by rfl) (fun K hK=>?_);refine q16 92 (.tmp 2) (.tmp 38) rfl w.heap.size [.int .u8 0,.bool qa,.bool qa,.string ⟨#[]⟩,.int .i64 0,.bool qa,.slice qc 0 0,.int .i64 0,.int .u64 0] rfl rfl 92 q1o (a4.o.below i.o) (by kernel_rfl) rfl rfl (fun j C b=>?_);have H:=vv C;have b9:=vv (z.o.grown b (fun e=>by injection e with e;have:=g.o;omega));have a2:=vv (q0h (k.o.trans (i.o.mono k.o.size)) b (k06 k.o.size i.o.size) lr);refine hK.out _ _ ⟨(q0u b (p:=⟨w.heap.size+1,1,qc⟩) (k01 g.o i.o.size) (by simp)).trans n.1,(q0u b (p:=⟨w.heap.size+1,2,qc⟩) (k01 g.o i.o.size) (by simp)).trans n.2⟩ (fun n=>?_);clear hK C b n;refine q0a ?_;go_wp2;obtain⟨I,q,r,J,L,M,N,O,P⟩:=H.o.num;rw[S.o];exact qb (v:=.tuple #[numV Num.none_ qc 0 0,.iface 141 (.pointer (qh ⟨f.heap.size,0,qc⟩))]) (by simp [results,results50,go_sem,I,q,r,J,L,M,N,O,P,numV,Num.none_]) rfl (.inr ⟨V.o,f.heap.size,rfl,k.o.size,b9.o,a2.o⟩)
   ·refine q16 92 (.tmp 2) (.tmp 38) rfl w.heap.size [.int .u8 0,.bool qa,.bool qa,.string ⟨#[]⟩,.int .i64 0,.bool qa,.slice qc 0 0,.int .i64 0,.int .u64 0] rfl rfl 92 q1o a4.o (by kernel_rfl) rfl rfl (fun j C b=>?_);have H:=vv C;have k:qk (qg w.heap.size w j):=vv (q0h k.o b k.o.size lr);have X:=(q0u b (p:=⟨w.heap.size+1,1,qc⟩) g.o (by simp)).trans t.o.1;have Y:=(q0u b (p:=⟨w.heap.size+1,2,qc⟩) g.o (by simp)).trans t.o.2;have t:=vv (And.intro X Y);have g:=vv (k01 g.o b.size);refine hK.out _ _ ⟨X,Y⟩ (fun n=>?_);clear hK C b n X Y hS0;refine q04 rfl (by rfl) (fun K hK=>?_);go_simp;have l:qg j.heap.size j (j.alloc (.cells #[.int .i64 (u.code:Int),.int .i64 (u.pos:Int)] 143)):=(qe _ _).alloc lr _;have z:=vv (Blk.made j 143 [.int .i64 (u.code:Int),.int .i64 (u.pos:Int)]);obtain⟨W,y⟩:=yx (j.alloc (.cells #[.int .i64 (u.code:Int),.int .i64 (u.pos:Int)] 143));have z:qk (Blk W j.heap.size 143 [.int .i64 (u.code:Int),.int .i64 (u.pos:Int)]):=vv (by rw[y];exact z.o);rw[<- y] at l ⊢;have i:=vv l;have c3:=vv (H.o.below l);clear y l;refine hK.out _ _ ⟨(i.o.cell (p:=⟨w.heap.size+1,1,qc⟩) g.o).trans t.o.1,(i.o.cell (p:=⟨w.heap.size+1,2,qc⟩) g.o).trans t.o.2⟩ (fun n=>?_);clear hK n
    iterate 1
     refine q01 (v:=?_) rfl (by rfl) ?_ ?_;rotate_left
     ·intro w a5;go_simp;with_reducible rfl
     simp only[Act.put,sa,sb,sc]
    refine q0a ?_;go_wp2;obtain⟨I,q,r,J,L,M,N,O,P⟩:=c3.o.num;rw[S.o];exact qb (v:=.tuple #[numV Num.none_ qc 0 0,.iface 141 (.pointer (qh ⟨j.heap.size,0,qc⟩))]) (by simp [results,results50,go_sem,I,q,r,J,L,M,N,O,P,numV,Num.none_]) rfl (.inr ⟨V.o,j.heap.size,rfl,k.o.size,z.o,k.o.trans (i.o.mono k.o.size)⟩)
end Scn
end Go.Proofs.YthopehoklmgphaaGreatDoor
