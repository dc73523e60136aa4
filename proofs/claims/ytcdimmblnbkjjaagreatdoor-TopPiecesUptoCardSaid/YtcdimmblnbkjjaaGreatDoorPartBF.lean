/- Lemmas. -/
import Derived.Test.YtcdimmblnbkjjaaGreatDoorPartBE
import Derived.Shelf.Strings.SlTrimAscii
set_option linter.all false
set_option maxHeartbeats 4000000
set_option maxRecDepth 100000
namespace Go.Proofs.YtcdimmblnbkjjaaGreatDoor.Scn
open Go Go.RowKit
theorem q4e(l:List UInt8):∀n,n<=l.foldl (fun n b=>10*n+(b.toNat-48)) n:=by
 induction l with
 | nil=>intro n;exact lr
 | cons a l ih=>intro n;rw[List.foldl_cons];exact Nat.le_trans (by omega) (ih _)
theorem qaL(l:List UInt8):∀(n:Nat),(∀c∈l,48<=c.toNat/\c.toNat<=57)->n<=18446744073709551615 ->
  Lib.parseUintM 18446744073709551615 n l=if l.foldl (fun n b=>10*n+(b.toNat-48)) n<=18446744073709551615 then .ok (l.foldl (fun n b=>10*n+(b.toNat-48)) n) else .range:=by
 induction l with
 | nil=>intro n _ hn;unfold Lib.parseUintM;rw[List.foldl_nil,if_pos hn]
 | cons a l ih =>
  intro n hl hn;have ha:=hl a List.mem_cons_self;have h2:=q4e l (10*n+(a.toNat-48));rw[List.foldl_cons];unfold Lib.parseUintM;rw[if_pos ha];split
  ·rw[if_neg (by omega)]
  ·split
   ·rw[if_neg (by omega)]
   ·rw[show n*10+(a.toNat-48)=10*n+(a.toNat-48) from by omega];exact ih _ (fun c hc=>hl c (List.mem_cons_of_mem _ hc)) (by omega)
theorem qaK{l:List UInt8}(h:∀c∈l,48<=c.toNat/\c.toNat<=57)(h0:l≠[]):
  Lib.parseUintB 64 l=if q26 l<=18446744073709551615 then .ok (q26 l) else .range:=by
 unfold Lib.parseUintB;rw[if_neg h0];exact qaL l 0 h (by decide)
theorem qa2:∀c:Fin 256,qa3.contains c.val.toUInt8=true->48<=c.val/\c.val<=57:=by decide +kernel
theorem q3D(r:ByteArray):∀c∈q15 r,48<=c.toNat/\c.toNat<=57:=by
 intro c hc;have h1:qa3.contains c=true:=by
  have:∀(l:List UInt8),c∈l.takeWhile (fun b=>qa3.contains b)->qa3.contains c=true:=by
   intro l
   induction l with
   | nil=>intro h;cases h
   | cons a l ih =>
    intro h;rw[List.takeWhile_cons] at h;split at h
    ·rcases List.mem_cons.1 h with h|h
     ·rw[h];assumption
     ·exact ih h
    ·cases h
  exact this _ hc
 have h2:=qa2 ⟨c.toNat,UInt8.toNat_lt c⟩;have e:(c.toNat.toUInt8)=c:=UInt8.ofNat_toNat;rw[e] at h2;exact h2 h1
theorem q2q(r:ByteArray):q15 r++Lib.trimLeftS r.data.toList qa3=r.data.toList:=List.takeWhile_append_dropWhile
theorem q4z(r:ByteArray):r.extract 0 (q15 r).length=⟨(q15 r).toArray⟩:=by
 apply ByteArray.ext
 apply Array.ext'
 rw[q5V,List.drop_zero];have:=q2q r
 conv=>lhs;rw[<- this]
 rw[List.take_left']
 rfl
theorem payload(b:Nat)(s:St)(w:World)(h:ScAt w b s)(hg:Bg w):
  Calls Tryz.prog 179 #[.pointer (some ⟨b,0,none⟩)] w (ScP b s.payload.2 (.int .u64 ((s.payload.1:Nat):Int)) w):=by
 have HH:=vv h;have HG:=vv hg;cases hp:s.has [40] with
 | false =>
  have HE:Hid (s.payload=(0,s)):=vv (by unfold St.payload;rw[hp];rfl);have HF:=vv (q55 b s ⟨#[40]⟩ w h hp);clear h hg hp;go_enter Tryz.func179,Tryz.ntmps179
  go_wp2_with fail
  refine HF.o.mono ?_;rintro e w1 ⟨rfl,hS,hG⟩;go_wp2;go_ret
  rw[HE.o];exact⟨rfl,hS,hG⟩
 | true =>
  have HF:=vv (q65 b s ⟨#[40]⟩ w h hp);obtain⟨u,hu⟩:=yx (s.skip 1);have HE:Hid (s.payload=if q15 u.rest=[] then(0,u.fail 111) else if 2251799813685247<q26 (q15 u.rest) then(0,u.put 115) else(q26 (q15 u.rest),if(u.skip (q15 u.rest).length).has [41] then(u.skip (q15 u.rest).length).skip 1 else(u.skip (q15 u.rest).length).fail 113)):=vv (by
   unfold St.payload;rw[hp,if_pos rfl,<- hu])
  rw[show s.skip (⟨#[40]⟩:ByteArray).size=u from hu.symm] at HF;clear h hg hp hu;go_enter Tryz.func179,Tryz.ntmps179
  go_wp2_with fail
  refine HF.o.mono ?_;rintro e w1 ⟨rfl,hS,hG⟩;have a6:=vv hS;have b0:=vv hG;have c0:=hS.c0;have hl:=hS.lt;obtain⟨R,hR⟩:=yx (u.rest);obtain⟨T,hT⟩:∃T:List UInt8,T=q15 R:=⟨_,rfl⟩;obtain⟨D,hD⟩:∃D:ByteArray,D=⟨(Lib.trimLeftS R.data.toList qa3).toArray⟩:=⟨_,rfl⟩;have c5:T.length+D.size=R.size:=by
   have:=congrArg List.length (q2q R);rw[List.length_append,q0D] at this;rw[hT,hD];show _+(List.toArray _).size=_;rw[List.size_toArray];exact this
  obtain⟨Tb,a7⟩:∃Tb:ByteArray,Tb=⟨T.toArray⟩:=⟨_,rfl⟩;have b6:R.extract 0 T.length=Tb:=by rw[a7,hT];exact q4z R
  have b1:Tb.size=T.length:=by rw[a7];exact List.size_toArray ..
  have b2:R.size<=65536:=by have:=hS.sm;rw[hR];omega
  have c6:Hid (∀w,Calls Tryz.prog 234 #[.string R,.string ⟨#[48,49,50,51,52,53,54,55,56,57]⟩] w fun e w'=>e=.returned (.string D)/\Below w.heap.size w w'):=vv fun w=>by
   have:=Any.strings_TrimLeft_laid Tryz.lays161 (by kernel_rfl) R ⟨#[48,49,50,51,52,53,54,55,56,57]⟩ w (by decide) (ascii_of_all (by decide));rw[hD];exact this
  rw[<- hR] at c0 HE;rw[<- hT] at HE;have b7:=vv hR;have c7:Hid (∀c∈T,48<=c.toNat/\c.toNat<=57):=vv (by rw[hT];exact q3D R);have a8:=vv (And.intro a7 b1);have d2:(R.size:Int)-(D.size:Int)=(Tb.size:Int):=by omega
  have c8:R.extract 0 Tb.size=Tb:=by rw[b1];exact b6
  have d3:(R.size:Int)<=65536:=by omega
  have d4:(Tb.size:Int)<=(R.size:Int):=by omega
  clear hS hG hR hT hD c5 a7 b6 b1 b2;go_wp2_with fail
  refine q01 (fun w'=>w'.cell? ⟨b,0,none⟩=some (.string R)) 17
   (.still 0 (.still 1 (.still 2 (.still 3 (.still 4 (.still 5 (.still 6 (.still 7 (.still 8 (.still 9 (.still 10 (.still 11 (.still 12 (.one 13 (.still 14 (.still 15 (.still 16 .done))))))))))))))))) (by kernel_rfl) (by kernel_rfl) (fun _ _ d _ _ h=>by cases d<;>exact h) c0 (fun hS0=>?_)
  obtain⟨wc,a9⟩:=yx (w1.drew);have a6:Hid (ScAt wc b u):=vv (by rw[a9];exact a6.o.drew);have b0:Hid (w.grownBy wc (some b)):=vv (by rw[a9];exact q4o b0.o);rw[<- a9] at hS0 ⊢;clear a9 hl c0
  iterate 13
   refine q00 (v:=?_) rfl (by rfl) ?_ ?_;rotate_left
   ·intro w c9;go_simp;with_reducible rfl
   simp only[Act.put,sa,sb,sc]
  refine q06 rfl (by rfl) (fun K hK=>?_);go_simp;refine(c6.o _).mono ?_;rintro e w2 ⟨rfl,hB⟩;have a1:=vv (a6.o.below hB a6.o.lt);have a4:=vv (q02 b0.o (q0j hB _));clear hB;go_wp2_with fail
  refine hK.out _ _ (b7.o ▸ a1.o.c0) (fun a5=>?_);clear hK;have d5:IntKind.i64.wrap (Tb.size:Int)=(Tb.size:Int):=IntWalk.i64_in _ (by omega)
  iterate 3
   refine q00 (v:=?_) rfl (by rfl) ?_ ?_;rotate_left
   ·intro w c9;go_simp;with_reducible rfl
   simp only[Act.put,sa,sb,sc]
  refine q0d ?_;clear a5 hS0;by_cases hT0:T=[]
  ·have a2:Hid (s.payload=(0,u.fail 111)):=vv (by rw[HE.o,if_pos hT0]);obtain rfl:Tb=⟨#[]⟩:=by rw[a8.o.1,hT0]
   have d0:=vv (fail b u 111 w2 a1.o (HG.o.grown a4.o HH.o));clear hT0;go_wp2_with fail
   refine d0.o.mono ?_;rintro e w3 ⟨rfl,hS,hG⟩;have a0:=vv hS;have a3:=vv (q02 a4.o hG);clear hS hG;go_wp2;go_ret
   rw[a2.o];exact⟨rfl,a0.o,a3.o⟩
  ·have d6:=q1V (s:=Tb) (by rw[a8.o.2];exact List.length_pos_iff.2 hT0);have b3:=vv (qaK c7.o hT0);have b8:Tb.data.toList=T:=by rw[a8.o.1]
   obtain⟨n,hn⟩:=yx (q26 T);rw[<- hn,<- b8] at b3;rw[if_neg hT0,<- hn] at HE;clear hn hT0 b8;have b4:=vv (HG.o.grown a4.o HH.o);have b9:=vv a8.o.2;by_cases hr:n<=18446744073709551615
   ·have HO:=vv (Tryz.strconv_ParseUint_10_at64_ok Tb (by omega) n (b3.o.trans (if_pos hr)) w2)
    clear hr;by_cases hb:2251799813685247<n
    ·have a2:Hid (s.payload=(0,u.put 115)):=vv (by rw[HE.o,if_pos hb]);have t1:decide ((2251799813685247:Int)<(n:Int))=true:=decide_eq_true (by omega);have k2:=a1.o.c2;have kf:=a1.o.fz 2;clear hb;go_wp2_with fail
     refine HO.o.mono ?_;rintro e w3 ⟨rfl,hw⟩;have hB:Below w2.heap.size w2 w3:=by
      rcases hw with rfl|rfl
      ·exact Below.refl _ _
      ·exact Lib.bytesWorld_below _ _ _
     have a0:=vv (a1.o.below hB a1.o.lt);have a3:=vv (q02 a4.o (q0j hB _));have k2:=a0.o.c2;have kf:=a0.o.fz 2;have kl:=a0.o.lt;have HP:=vv (And.intro (a0.o.put 115) (q02 a3.o (q0H (.int .i64 115))));clear hB hw;go_wp2;go_ret
     rw[a2.o];exact⟨rfl,HP.o.1,HP.o.2⟩
    ·obtain⟨v,hv⟩:=yx (u.skip T.length);have a2:Hid (s.payload=(n,if v.has [41] then v.skip 1 else v.fail 113)):=vv (by rw[HE.o,if_neg hb,hv]);have t1:decide ((2251799813685247:Int)<(n:Int))=false:=decide_eq_false (by omega);have c1:=vv fun w h=>skip b u T.length w h (by rw[<- b9.o,<- b7.o];omega)
     rw[<- hv,<- b9.o] at c1;clear hb hv;go_wp2_with fail
     refine HO.o.mono ?_;rintro e w3 ⟨rfl,hw⟩;have hB:Below w2.heap.size w2 w3:=by
      rcases hw with rfl|rfl
      ·exact Below.refl _ _
      ·exact Lib.bytesWorld_below _ _ _
     have a0:=vv (a1.o.below hB a1.o.lt);have a3:=vv (q02 a4.o (q0j hB _));clear hB hw;go_wp2_with fail
     refine(c1.o _ a0.o).mono ?_;rintro e w4 ⟨rfl,hS,hG⟩;have d7:=vv hS;have c2:=vv (q02 a3.o hG);clear hG;cases hp:v.has [41] with
     | true =>
      have HF:=vv (q65 b v ⟨#[41]⟩ w4 hS hp);have b5:Hid (s.payload=(n,v.skip 1)):=vv (by rw[a2.o,hp];rfl);clear hS hp;go_wp2_with fail
      refine HF.o.mono ?_;rintro e w5 ⟨rfl,hS,hG⟩;go_wp2;go_ret
      rw[b5.o];exact⟨rfl,hS,q02 c2.o hG⟩
     | false =>
      have HF:=vv (q55 b v ⟨#[41]⟩ w4 hS hp);have b5:Hid (s.payload=(n,v.fail 113)):=vv (by rw[a2.o,hp];rfl);clear hS hp;go_wp2_with fail
      refine HF.o.mono ?_;rintro e w5 ⟨rfl,hS,hG⟩;have c3:=vv (q02 c2.o hG);have d1:=vv (fail b v 113 w5 hS (HG.o.grown c3.o HH.o));clear hS hG;go_wp2_with fail
      refine d1.o.mono ?_;rintro e w6 ⟨rfl,hS,hG⟩;go_wp2;go_ret
      rw[b5.o];exact⟨rfl,hS,q02 c3.o hG⟩
   ·have a2:Hid (s.payload=(0,u.put 115)):=vv (by rw[HE.o,if_pos (by omega)]);obtain⟨te,pe,c4⟩:=b4.o.er;have HO:=vv (Tryz.strconv_ParseUint_10_at64_range Tb (by omega) (b3.o.trans (if_neg hr)) _ w2 c4 (.inr ⟨te,pe,rfl⟩))
    clear hr c4;go_wp2_with fail
    refine HO.o.mono ?_;rintro e w3 ⟨N,rfl,_,_,hB⟩;have a0:=vv (a1.o.below hB a1.o.lt);have a3:=vv (q02 a4.o (q0j hB _));have k2:=a0.o.c2;have kf:=a0.o.fz 2;have kl:=a0.o.lt;have HP:=vv (And.intro (a0.o.put 115) (q02 a3.o (q0H (.int .i64 115))));clear hB;go_wp2;go_ret
    rw[a2.o];exact⟨rfl,HP.o.1,HP.o.2⟩
end Go.Proofs.YtcdimmblnbkjjaaGreatDoor.Scn
namespace Go.Proofs.YtcdimmblnbkjjaaGreatDoor.Scn
open Go Go.RowKit R5
theorem qaM{s:St}{p:ByteArray}(h:s.fold p.data.toList=true):s.over p=s.skip p.size:=by unfold St.over;rw[h];rfl
theorem qaN{s:St}{p:ByteArray}(h:s.fold p.data.toList=false):s.over p=s:=by unfold St.over;rw[h];rfl
theorem q5z(b:Nat)(s:St)(p:ByteArray)(w:World)(h:ScAt w b s)(hp:p.size<=65536)(hb:s.fold p.data.toList=true):
  Calls Tryz.prog 176 #[.pointer (some ⟨b,0,none⟩),.string p] w (ScP b (s.skip p.size) (.bool true) w):=by
 have:=fold b s p w h hp
 rwa [qaM hb,hb] at this
theorem q5A(b:Nat)(s:St)(p:ByteArray)(w:World)(h:ScAt w b s)(hp:p.size<=65536)(hb:s.fold p.data.toList=false):
  Calls Tryz.prog 176 #[.pointer (some ⟨b,0,none⟩),.string p] w (ScP b s (.bool false) w):=by
 have:=fold b s p w h hp
 rwa [qaN hb,hb] at this
theorem number(b:Nat)(s:St)(w:World)(h:ScAt w b s)(hg:Bg w):
  Calls Tryz.prog 130 #[.pointer (some ⟨b,0,none⟩)] w (qbF b s.number.1 s.number.2 w):=by
 have HH:=vv h;have HG:=vv hg;have HL:=vv h.lt;have a1:Hid (b≠w.heap.size):=vv (by have:=HL.o;omega);obtain⟨neg,u,hm⟩:∃neg u,s.minus=(neg,u):=⟨_,_,rfl⟩;have HM:=vv hm;have d7:=vv fun w h=>minus b s w h
 rw[hm] at d7;obtain⟨d,n,hn⟩:∃d n,ten u.rest=(d,n):=⟨_,_,rfl⟩;have HT:Hid (∀w,Calls Tryz.prog 175 #[.string u.rest] w fun e w'=>e=.returned (.tuple #[.int .i64 (d:Int),.int .i64 (n:Int)])/\Below w.heap.size w w'):=vv fun w=>by
  have:=qbL u.rest w;rw[hn] at this;exact this
 have HN:=vv hn;have HP:=vv fun w=>qaF u.rest ⟨#[95]⟩ w
 have b4:=vv fun w=>qaF u.rest ⟨#[46]⟩ w
 simp only[show(⟨#[95]⟩:ByteArray).data.toList=[95] from rfl] at HP;simp only[show(⟨#[46]⟩:ByteArray).data.toList=[46] from rfl] at b4;clear h hg hm hn;go_enter Tryz.func130,Tryz.ntmps130
 go_wp2_with fail
 obtain⟨w0,b5⟩:=yx (w.alloc (.cells #[.int .u8 0,.bool false,.bool false,.string ⟨#[]⟩,.int .i64 0,.bool false,.slice none 0 0,.int .i64 0,.int .u64 0] 33));rw[<- b5];have d8:w.grownBy w0 (some b):=by rw[b5];exact q0n (World.grownBy.refl w _) _
 have e6:Hid (Blk w0 w.heap.size 33 q1y):=vv (by rw[b5];exact Blk.made w _ q1y);have b6:ScAt w0 b s:=HH.o.grown (row:=none) (by rw[b5];exact q0n (World.grownBy.refl w _) _) (fun k e=>by cases e);have e7:=vv d8;have e8:=vv (d7.o w0 b6);clear d8 b6 b5;refine e8.o.mono ?_;rintro e w1 ⟨rfl,hS,hG⟩;have a9:=vv hS;have d9:=vv (q02 e7.o hG);have e0:=vv (e6.o.grown hG (fun e=>a1.o (by injection e)));clear hS hG;have c0:=a9.o.c0;have hl:=a9.o.lt;cases hp:pre u.rest [95] with
 | true =>
  rw[hp] at HP;have HE:Hid (s.number=(Num.none_,u.put 112)):=vv (by unfold St.number;rw[HM.o];dsimp only;rw[hp,if_pos rfl]);have c2:=a9.o.c2;have f2:=a9.o.fz 2;have c3:=vv (a9.o.put 112);have c4:=vv (q02 d9.o (q0H (.int .i64 112)));have c5:=vv (e0.o.grown (q0H (b:=b) (.int .i64 112)) (fun e=>a1.o (by injection e)));clear hp;go_wp2_with fail
  refine(HP.o _).mono ?_;rintro e w' ⟨rfl,rfl⟩;go_wp2_with (with_reducible refine q08 rfl 33 (.tmp 2) (.tmp 16) rfl w.heap.size [.int .u8 0,.bool false,.bool false,.string ⟨#[]⟩,.int .i64 0,.bool false,.slice none 0 0,.int .i64 0,.int .u64 0] rfl rfl 33 q1y c5.o (by kernel_rfl) rfl rfl ?_)
  intro w8 hB a0;have a2:=vv (c3.o.grown a0 (fun k e=>by cases e;exact fun e=>a1.o e.symm));have a3:=vv (q0f c4.o a0 (fun k e=>by cases e;exact lr));have a4:=vv hB;clear hB a0;go_wp2;rw[HE.o];exact bodyPost_ret (results_cell_row rfl _ _ _ _ _ _ _ rfl a4.o Tryz.underlying33 rfl (by kernel_rfl)) rfl ⟨none,0,0,rfl,Rd.nil _,Fr.none_ _,a2.o,a3.o⟩
 | false =>
  rw[hp] at HP;have hQ:s.number=if u.fold [48,120] then(u.skip 2).hex neg else if 0<n\/pre u.rest [46]=true then u.decimal neg else if u.fold [105,110,102,105,110,105,116,121] then(⟨3,neg,false,[],0,false,0,0,0⟩,u.skip 8) else if u.fold [105,110,102] then(⟨3,neg,false,[],0,false,0,0,0⟩,u.skip 3) else if u.fold [110,97,110] then(⟨4,neg,false,[],0,false,0,0,(u.skip 3).payload.1⟩,(u.skip 3).payload.2) else(Num.none_,u.fail 110):=by
   unfold St.number;rw[HM.o];dsimp only;rw[hp,HN.o]
   rfl
  have HQ:=vv hQ;clear hp hQ;go_wp2_with fail
  refine(HP.o _).mono ?_;rintro e w' ⟨rfl,rfl⟩;go_wp2_with fail
  refine(HT.o _).mono ?_;rintro e w2 ⟨rfl,hB⟩;have c3:=vv (a9.o.below hB a9.o.lt);have c4:=vv (q02 d9.o (q0j hB _));have c5:=vv (e0.o.below hB);clear hB c0 hl;cases h1:u.fold [48,120] with
  | true =>
   obtain⟨x,v,hx⟩:∃x v,(u.skip 2).hex neg=(x,v):=⟨_,_,rfl⟩;have HE:Hid (s.number=(x,v)):=vv (by rw[HQ.o,h1,if_pos rfl,hx]);have HF:=vv (q5z b u ⟨#[48,120]⟩ w2 c3.o (by decide) h1);have HX:=vv fun w h hg=>hex b (u.skip 2) neg w h hg
   rw[hx] at HX;clear h1 hx;go_wp2_with fail
   refine HF.o.mono ?_;rintro e w3 ⟨rfl,hS,hG⟩;have b0:=vv hS;have b1:=vv (q02 c4.o hG);have a5:=vv (c5.o.grown hG (fun e=>a1.o (by injection e)));clear hS hG;go_wp2_with fail
   refine(HX.o _ b0.o (HG.o.grown b1.o HH.o)).mono ?_;rintro e w4 ⟨A,m,c,rfl,b7,b2,hS,hG⟩;have c9:=vv b7;have d0:Hid (∀a,A=some a->a.block≠w.heap.size):=vv (fun a e=>by have:=(b2 a e).1;have:=a5.o.lt;omega);have d1:Hid (Fr w.heap.size A):=vv (b2.mono (Nat.le_of_lt a5.o.lt));clear b7 b2;have a6:=vv hS;have a7:=vv (q02 b1.o hG);have a8:=vv (a5.o.grown hG (fun e=>a1.o (by injection e)));clear hS hG;go_wp2_with (with_reducible refine q08 rfl 33 (.tmp 2) (.tmp 30) rfl w.heap.size [.int .u8 (x.kind:Int),.bool x.neg,.bool x.dneg,.string ⟨x.digits.toArray⟩,.int .i64 x.exp,.bool x.hneg,.slice A m c,.int .i64 x.hexp,.int .u64 (x.payload:Int)] rfl rfl 33 q1y a8.o (by kernel_rfl) rfl rfl ?_)
   intro w8 hB a0;have a2:=vv (a6.o.grown a0 (fun k e=>by cases e;exact fun e=>a1.o e.symm));have a3:=vv (q0f a7.o a0 (fun k e=>by cases e;exact lr));have a4:=vv hB;have b3:=vv (c9.o.only a0 d0.o);clear hB a0;go_wp2;rw[HE.o];exact bodyPost_ret (results_cell_row rfl _ _ _ _ _ _ _ rfl a4.o Tryz.underlying33 rfl (by kernel_rfl)) rfl ⟨A,m,c,rfl,b3.o,d1.o,a2.o,a3.o⟩
  | false =>
   have HF:=vv (q5A b u ⟨#[48,120]⟩ w2 c3.o (by decide) h1);have e1:=vv (show s.number=_ by rw[HQ.o,h1,if_neg (by decide)]);clear h1;go_wp2_with fail
   refine HF.o.mono ?_;rintro e w3 ⟨rfl,hS,hG⟩;have b0:=vv hS;have b1:=vv (q02 c4.o hG);have a5:=vv (c5.o.grown hG (fun e=>a1.o (by injection e)));clear hS hG;have c0:=b0.o.c0;have hl:=b0.o.lt;by_cases hdec:0<n\/pre u.rest [46]=true
   ·obtain⟨x,v,hx⟩:∃x v,u.decimal neg=(x,v):=⟨_,_,rfl⟩;have HE:Hid (s.number=(x,v)):=vv (by rw[e1.o,if_pos hdec,hx]);have HX:=vv fun w h hg=>decimal b u neg w h hg
    rw[hx] at HX;clear hx;have hc:(decide ((0:Int)<(n:Int))=true)\/(decide ((0:Int)<(n:Int))=false/\pre u.rest [46]=true):=by
     rcases Nat.eq_zero_or_pos n with e|e
     ·exact .inr ⟨decide_eq_false (by omega),hdec.resolve_left (by omega)⟩
     ·exact .inl (decide_eq_true (by omega))
    clear hdec;rcases hc with b8|⟨b8,b9⟩
    case' inl =>
     have e2:(0:Int)<(n:Int):=of_decide_eq_true b8;clear b8;go_wp2_with fail
    case' inr =>
     have e2:¬(0:Int)<(n:Int):=of_decide_eq_false b8;rw[b9] at b4;have e9:n=0:=by omega
     subst e9;clear b8 e2 b9;go_wp2_with fail
     refine(b4.o _).mono ?_;rintro e w' ⟨rfl,rfl⟩;go_wp2_with fail
    all_goals
     refine(HX.o _ b0.o (HG.o.grown b1.o HH.o)).mono ?_;rintro e w4 ⟨A,m,c,rfl,b7,b2,hS,hG⟩;have c9:=vv b7;have d0:Hid (∀a,A=some a->a.block≠w.heap.size):=vv (fun a e=>by have:=(b2 a e).1;have:=a5.o.lt;omega);have d1:Hid (Fr w.heap.size A):=vv (b2.mono (Nat.le_of_lt a5.o.lt));clear b7 b2;have a6:=vv hS;have a7:=vv (q02 b1.o hG);have a8:=vv (a5.o.grown hG (fun e=>a1.o (by injection e)));clear hS hG;go_wp2_with (with_reducible refine q08 rfl 33 (.tmp 2) (.tmp 43) rfl w.heap.size [.int .u8 (x.kind:Int),.bool x.neg,.bool x.dneg,.string ⟨x.digits.toArray⟩,.int .i64 x.exp,.bool x.hneg,.slice A m c,.int .i64 x.hexp,.int .u64 (x.payload:Int)] rfl rfl 33 q1y a8.o (by kernel_rfl) rfl rfl ?_)
     intro w8 hB a0;have a2:=vv (a6.o.grown a0 (fun k e=>by cases e;exact fun e=>a1.o e.symm));have a3:=vv (q0f a7.o a0 (fun k e=>by cases e;exact lr));have a4:=vv hB;have b3:=vv (c9.o.only a0 d0.o);clear hB a0;go_wp2;rw[HE.o];exact bodyPost_ret (results_cell_row rfl _ _ _ _ _ _ _ rfl a4.o Tryz.underlying33 rfl (by kernel_rfl)) rfl ⟨A,m,c,rfl,b3.o,d1.o,a2.o,a3.o⟩
   ·have f0:n=0:=by omega
    subst f0;have b9:pre u.rest [46]=false:=by
     cases h:pre u.rest [46] with
     | false=>rfl
     | true=>exact absurd (.inr h) hdec
    rw[b9] at b4;have e3:=vv (show s.number=_ by rw[e1.o,if_neg hdec]);clear hdec b9;go_wp2_with fail
    refine(b4.o _).mono ?_;rintro e w' ⟨rfl,rfl⟩;clear c0 hl;cases h2:u.fold [105,110,102,105,110,105,116,121] with
    | true =>
     have HF:=vv (q5z b u ⟨#[105,110,102,105,110,105,116,121]⟩ w3 b0.o (by decide) h2);have HE:=vv (show s.number=_ by rw[e3.o,h2,if_pos rfl]);clear h2;go_wp2_with fail
     refine HF.o.mono ?_;rintro e w4 ⟨rfl,hS,hG⟩;have a6:=vv hS;have a7:=vv (q02 b1.o hG);have a8:=vv (a5.o.grown hG (fun e=>a1.o (by injection e)));clear hS hG;go_wp2_with (with_reducible refine q08 rfl 33 (.tmp 2) (.tmp 52) rfl w.heap.size [.int .u8 3,.bool neg,.bool false,.string ⟨#[]⟩,.int .i64 0,.bool false,.slice none 0 0,.int .i64 0,.int .u64 0] rfl rfl 33 q1y a8.o (by kernel_rfl) rfl rfl ?_)
     intro w8 hB a0;have a2:=vv (a6.o.grown a0 (fun k e=>by cases e;exact fun e=>a1.o e.symm));have a3:=vv (q0f a7.o a0 (fun k e=>by cases e;exact lr));have a4:=vv hB;clear hB a0;go_wp2;rw[HE.o];exact bodyPost_ret (results_cell_row rfl _ _ _ _ _ _ _ rfl a4.o Tryz.underlying33 rfl (by kernel_rfl)) rfl ⟨none,0,0,rfl,Rd.nil _,Fr.none_ _,a2.o,a3.o⟩
    | false =>
     have HF:=vv (q5A b u ⟨#[105,110,102,105,110,105,116,121]⟩ w3 b0.o (by decide) h2);have e4:=vv (show s.number=_ by rw[e3.o,h2,if_neg (by decide)]);clear h2;go_wp2_with fail
     refine HF.o.mono ?_;rintro e w4 ⟨rfl,hS,hG⟩;have a6:=vv hS;have a7:=vv (q02 b1.o hG);have a8:=vv (a5.o.grown hG (fun e=>a1.o (by injection e)));clear hS hG;cases h3:u.fold [105,110,102] with
     | true =>
      have HF:=vv (q5z b u ⟨#[105,110,102]⟩ w4 a6.o (by decide) h3);have HE:=vv (show s.number=_ by rw[e4.o,h3,if_pos rfl]);clear h3;go_wp2_with fail
      refine HF.o.mono ?_;rintro e w5 ⟨rfl,hS,hG⟩;have c6:=vv hS;have c7:=vv (q02 a7.o hG);have c8:=vv (a8.o.grown hG (fun e=>a1.o (by injection e)));clear hS hG;go_wp2_with (with_reducible refine q08 rfl 33 (.tmp 2) (.tmp 52) rfl w.heap.size [.int .u8 3,.bool neg,.bool false,.string ⟨#[]⟩,.int .i64 0,.bool false,.slice none 0 0,.int .i64 0,.int .u64 0] rfl rfl 33 q1y c8.o (by kernel_rfl) rfl rfl ?_)
      intro w8 hB a0;have a2:=vv (c6.o.grown a0 (fun k e=>by cases e;exact fun e=>a1.o e.symm));have a3:=vv (q0f c7.o a0 (fun k e=>by cases e;exact lr));have a4:=vv hB;clear hB a0;go_wp2;rw[HE.o];exact bodyPost_ret (results_cell_row rfl _ _ _ _ _ _ _ rfl a4.o Tryz.underlying33 rfl (by kernel_rfl)) rfl ⟨none,0,0,rfl,Rd.nil _,Fr.none_ _,a2.o,a3.o⟩
     | false =>
      have HF:=vv (q5A b u ⟨#[105,110,102]⟩ w4 a6.o (by decide) h3);have e5:=vv (show s.number=_ by rw[e4.o,h3,if_neg (by decide)]);clear h3;go_wp2_with fail
      refine HF.o.mono ?_;rintro e w5 ⟨rfl,hS,hG⟩;have c6:=vv hS;have c7:=vv (q02 a7.o hG);have c8:=vv (a8.o.grown hG (fun e=>a1.o (by injection e)));clear hS hG;cases h4:u.fold [110,97,110] with
      | true =>
       obtain⟨pl,v,hx⟩:∃pl v,(u.skip 3).payload=(pl,v):=⟨_,_,rfl⟩;have HF:=vv (q5z b u ⟨#[110,97,110]⟩ w5 c6.o (by decide) h4);have HE:Hid (s.number=(⟨4,neg,false,[],0,false,0,0,pl⟩,v)):=vv (by rw[e5.o,h4,if_pos rfl,hx]);have HX:=vv fun w h hg=>payload b (u.skip 3) w h hg
       rw[hx] at HX;clear h4 hx;go_wp2_with fail
       refine HF.o.mono ?_;rintro e w6 ⟨rfl,hS,hG⟩;have d2:=vv hS;have c1:=vv (q02 c7.o hG);have d3:=vv (c8.o.grown hG (fun e=>a1.o (by injection e)));clear hS hG;go_wp2_with fail
       refine(HX.o _ d2.o (HG.o.grown c1.o HH.o)).mono ?_;rintro e w7 ⟨rfl,hS,hG⟩;have d4:=vv hS;have d5:=vv (q02 c1.o hG);have d6:=vv (d3.o.grown hG (fun e=>a1.o (by injection e)));clear hS hG;go_wp2_with (with_reducible refine q08 rfl 33 (.tmp 2) (.tmp 59) rfl w.heap.size [.int .u8 4,.bool neg,.bool false,.string ⟨#[]⟩,.int .i64 0,.bool false,.slice none 0 0,.int .i64 0,.int .u64 (pl:Int)] rfl rfl 33 q1y d6.o (by kernel_rfl) rfl rfl ?_)
       intro w8 hB a0;have a2:=vv (d4.o.grown a0 (fun k e=>by cases e;exact fun e=>a1.o e.symm));have a3:=vv (q0f d5.o a0 (fun k e=>by cases e;exact lr));have a4:=vv hB;clear hB a0;go_wp2;rw[HE.o];exact bodyPost_ret (results_cell_row rfl _ _ _ _ _ _ _ rfl a4.o Tryz.underlying33 rfl (by kernel_rfl)) rfl ⟨none,0,0,rfl,Rd.nil _,Fr.none_ _,a2.o,a3.o⟩
      | false =>
       have HF:=vv (q5A b u ⟨#[110,97,110]⟩ w5 c6.o (by decide) h4);have HE:=vv (show s.number=_ by rw[e5.o,h4,if_neg (by decide)]);clear h4;go_wp2_with fail
       refine HF.o.mono ?_;rintro e w6 ⟨rfl,hS,hG⟩;have d2:=vv hS;have c1:=vv (q02 c7.o hG);have d3:=vv (c8.o.grown hG (fun e=>a1.o (by injection e)));clear hS hG;go_wp2_with fail
       refine(fail b u 110 _ d2.o (HG.o.grown c1.o HH.o)).mono ?_;rintro e w7 ⟨rfl,hS,hG⟩;have d4:=vv hS;have d5:=vv (q02 c1.o hG);have d6:=vv (d3.o.grown hG (fun e=>a1.o (by injection e)));clear hS hG;go_wp2_with (with_reducible refine q08 rfl 33 (.tmp 2) (.tmp 62) rfl w.heap.size [.int .u8 0,.bool false,.bool false,.string ⟨#[]⟩,.int .i64 0,.bool false,.slice none 0 0,.int .i64 0,.int .u64 0] rfl rfl 33 q1y d6.o (by kernel_rfl) rfl rfl ?_)
       intro w8 hB a0;have a2:=vv (d4.o.grown a0 (fun k e=>by cases e;exact fun e=>a1.o e.symm));have a3:=vv (q0f d5.o a0 (fun k e=>by cases e;exact lr));have a4:=vv hB;clear hB a0;go_wp2;rw[HE.o];exact bodyPost_ret (results_cell_row rfl _ _ _ _ _ _ _ rfl a4.o Tryz.underlying33 rfl (by kernel_rfl)) rfl ⟨none,0,0,rfl,Rd.nil _,Fr.none_ _,a2.o,a3.o⟩
def qba(x:Num)(w:World)(e:Ending)(w':World):Prop:=
 ∃A m c,e=.returned (.tuple #[numV x A m c,.nilIface])/\Rd w' A m c (toL x.mant)/\Fr w.heap.size A/\Below w.heap.size w w'
def qae(code pos:Nat)(w:World)(e:Ending)(w':World):Prop:=
 ∃g,e=.returned (.tuple #[numV Num.none_ none 0 0,.iface 174 (.pointer (some ⟨g,0,none⟩))])/\w.heap.size<=g/\Blk w' g 176 [.int .i64 (code:Int),.int .i64 (pos:Int)]/\Below w.heap.size w w'
def qbC(r:Num × Nat × Nat)(w:World)(e:Ending)(w':World):Prop:=(r.2.1=0/\qba r.1 w e w')\/(r.2.1≠0/\qae r.2.1 r.2.2 w e w')
theorem q7h{s:St}{c:Nat}(h:s.code=0)(hc:c≠0):(s.fail c).code≠0:=by
 unfold St.fail;rw[if_pos h];split
 ·show(114:Nat)≠0;decide
 ·exact hc
theorem q0O{P:Program}{o:Oper}{a:Act}{w:World}{K:Act->World->Prop}{Q:Exit->Act->World->Prop}(ty:TypeId)(x y:Operand)(ho:o.op=.store ty x y)
  (g:Nat) (cells:List Value) (hx:a.eval x=.pointer (some ⟨g,0,none⟩)) (hy:a.eval y=.agg cells.toArray)
  (t:TypeId) (old:List Value) (hg:Blk w g t old) (hi:(P.info? ty).map (·.size)=some cells.length)
  (hold:old.length=cells.length) (h1:cells.all (·.oneCell')=true)
  (h:∀w',Blk w' g t cells->w.grownBy w' (some g)->K (a.put o.dst undef) w'):o.wp P a w K Q:=by
 refine wp_store_row ty x y ho g cells.toArray hx hy t old.toArray hg (by simpa using hi) (by simpa using hold) (by simpa using h1) (h _ (setRow_heap w g _ _ t _ hg) ⟨rfl,rfl,rfl,by simp [World.setRow],fun i hi a0=>?_⟩);unfold World.setRow;rw[Array.getElem?_modify,if_neg (fun e=>a0 (by rw[e]))]
theorem Read(s:ByteArray)(w:World)(hg:Bg w):Calls Tryz.prog 81 #[.string s] w (qbC (q3z s) w):=by
 have HG:=vv hg;obtain⟨w0,b2⟩:=yx (w.alloc (.cells #[.int .u8 0,.bool false,.bool false,.string ⟨#[]⟩,.int .i64 0,.bool false,.slice none 0 0,.int .i64 0,.int .u64 0] 33));have d9:Below w.heap.size w w0:=by rw[b2];exact(Below.refl _ _).alloc lr _
 have e3:Hid (Blk w0 w.heap.size 33 q1y):=vv (by rw[b2];exact Blk.made w _ q1y);have e4:Hid (w0.heap.size=w.heap.size+1):=vv (by rw[b2];simp);have e5:=vv d9;have e6:=vv b2;clear d9 b2 hg;by_cases hs:65536<s.size
 ·have HE:Hid (q3z s=(Num.none_,3,0)):=vv (by unfold q3z;rw[if_pos hs]);have e7:(65536:Int)<(s.size:Int):=by omega
  clear hs;go_enter Tryz.func81,Tryz.ntmps81
  go_wp2;rw[HE.o];exact bodyPost_ret (v:=.tuple #[numV Num.none_ none 0 0,.iface 174 (.pointer (some ⟨w.heap.size+1,0,none⟩))]) (by simp [results,Tryz.results81,go_sem,numV,Num.none_]) rfl (.inr ⟨by decide,w.heap.size+1,rfl,Nat.le_succ _,by
   have:=Blk.made (w.alloc (.cells #[.int .u8 0,.bool false,.bool false,.string ⟨#[]⟩,.int .i64 0,.bool false,.slice none 0 0,.int .i64 0,.int .u64 0] 33)) 176 [.int .i64 3,.int .i64 0];rw[World.size_alloc] at this;exact this,((Below.refl _ _).alloc lr _).alloc (by simp) _⟩)
 ·obtain⟨x,u,hx⟩:∃x u,(St.mk s 0 0).number=(x,u):=⟨_,_,rfl⟩;have hE:q3z s=if(if u.code=0/\u.rest.size≠0 then u.fail 113 else u).code=0 then(x,0,0) else(Num.none_,(if u.code=0/\u.rest.size≠0 then u.fail 113 else u).code,(if u.code=0/\u.rest.size≠0 then u.fail 113 else u).pos):=by
   unfold q3z;rw[if_neg hs,hx]
  have e7:(s.size:Int)<=65536:=by omega
  obtain⟨w1,c1⟩:=yx (w0.alloc (.cells #[.string s,.int .i64 0,.int .i64 0] 179));have c5:Below w0.heap.size w0 w1:=by rw[c1];exact(Below.refl _ _).alloc lr _
  have c6:ScAt w1 w0.heap.size ⟨s,0,0⟩:=by rw[c1];exact ScAt.made w0 s _ (by omega)
  have c3:=vn e5 c5;have e0:=vv (e3.o.below c5);have HN:=vv (number w0.heap.size ⟨s,0,0⟩ w1 c6 (HG.o.below c3.o));rw[hx] at HN;have e1:=vv c1;have c7:=vv c6;have HE:=vv hE;rw[e4.o] at HN c7;rw[e6.o] at e1;clear hs hx hE c1 c5 c6;go_enter Tryz.func81,Tryz.ntmps81
  go_wp2_with fail
  rw[<- e1.o];refine HN.o.mono ?_;rintro e w2 ⟨A,m,c,he,e2,c8,hS,hG⟩;rw[show numV x A m c=.agg #[.int .u8 (x.kind:Int),.bool x.neg,.bool x.dneg,.string ⟨x.digits.toArray⟩,.int .i64 x.exp,.bool x.hneg,.slice A m c,.int .i64 x.hexp,.int .u64 (x.payload:Int)] from rfl] at he;subst he;have e8:=vv e2;have c4:=vv hS;have c9:=vv (e0.o.grown hG (fun e=>by injection e with e;omega));have b3:=vv (q0a c3.o hG (by have:=c3.o.size;omega) (Nat.le_succ _));have e9:=vv (c8.mono (by have:=c3.o.size;omega:w.heap.size<=w1.heap.size));have f0:Hid (∀a,A=some a->a.block≠w.heap.size):=vv (fun a e=>by have:=(c8 a e).1;have:=e0.o.lt;omega);have c0:=hS.c0;have c2:=hS.c2;have hl:=hS.lt;clear e2 hS c8 hG;by_cases hc:u.code=0
  ·have t0:((u.code:Int)==0)=true:=by rw[hc];rfl
   by_cases hr:u.rest.size=0
   ·have b0:Hid (q3z s=(x,0,0)):=vv (by
     have b4:(if u.code=0/\u.rest.size≠0 then u.fail 113 else u)=u:=if_neg (fun h=>h.2 hr);rw[HE.o,b4,if_pos hc])
    obtain⟨R,hR⟩:=yx (u.rest);rw[<- hR] at c0 hr;obtain rfl:R=⟨#[]⟩:=ByteArray.ext (Array.eq_empty_of_size_eq_zero hr);have t1:((u.code:Int) != 0)=false:=by rw[hc];rfl
    clear hR hr hc;go_wp2_with (with_reducible refine q08 rfl 33 (.tmp 2) (.tmp 51) rfl w.heap.size [.int .u8 (x.kind:Int),.bool x.neg,.bool x.dneg,.string ⟨x.digits.toArray⟩,.int .i64 x.exp,.bool x.hneg,.slice A m c,.int .i64 x.hexp,.int .u64 (x.payload:Int)] rfl rfl 33 q1y (c9.o.alloc _) (by kernel_rfl) rfl rfl ?_)
    intro w8 hB a1;have d0:Below w2.heap.size w2 (w2.alloc (.cells #[.int .u8 (x.kind:Int),.bool x.neg,.bool x.dneg,.string ⟨x.digits.toArray⟩,.int .i64 x.exp,.bool x.hneg,.slice A m c,.int .i64 x.hexp,.int .u64 (x.payload:Int)] 33)):=(Below.refl _ _).alloc lr _;have d1:=vv ((e8.o.below d0 rfl).only a1 f0.o);have b5:=vv (q0a (b3.o.trans (d0.mono b3.o.size)) a1 (by have:=b3.o.size;simp;omega) lr);have HK:=vv hB;clear hB a1 d0;go_wp2;obtain⟨k0,k1,k2,k3,k4,k5,k6,k7,k8⟩:=HK.o.num;rw[b0.o];exact bodyPost_ret (v:=.tuple #[numV x A m c,.nilIface]) (by simp [results,Tryz.results81,go_sem,k0,k1,k2,k3,k4,k5,k6,k7,k8,numV]) rfl (.inl ⟨rfl,A,m,c,rfl,d1.o,e9.o,b5.o⟩)
   ·obtain⟨v,hv⟩:=yx (u.fail 113);have d2:v.code≠0:=by rw[hv];exact q7h hc (by decide)
    have b0:Hid (q3z s=(Num.none_,v.code,v.pos)):=vv (by
     have b4:(if u.code=0/\u.rest.size≠0 then u.fail 113 else u)=v:=by rw[if_pos ⟨hc,hr⟩,hv]
     rw[HE.o,b4,if_neg d2])
    have HC:=vv d2;obtain⟨R,hR⟩:=yx (u.rest);rw[<- hR] at c0 hr;have f3:=q1V (s:=R) (by omega);obtain⟨w3,b1⟩:=yx (w2.alloc (.cells #[.int .u8 (x.kind:Int),.bool x.neg,.bool x.dneg,.string ⟨x.digits.toArray⟩,.int .i64 x.exp,.bool x.hneg,.slice A m c,.int .i64 x.hexp,.int .u64 (x.payload:Int)] 33));have a9:Below w2.heap.size w2 w3:=by rw[b1];exact(Below.refl _ _).alloc lr _
    have d3:=vv (c9.o.below a9);have b6:=vn b3 a9;have HF:=vv (fail (w.heap.size+1) u 113 w3 (c4.o.below a9 c4.o.lt) (HG.o.below b6.o));rw[<- hv] at HF;have d4:=vv b1;clear hR hr hc hv d2 b1 a9;go_wp2_with fail
    rw[<- d4.o];refine HF.o.mono ?_;rintro e w4 ⟨rfl,hS,hG⟩;have d5:=vv hS;have f1:=vv (d3.o.grown hG (fun e=>by injection e with e;omega));have f2:=vv (q0a b6.o hG (by have:=b6.o.size;omega) (Nat.le_succ _));clear hS hG;have b7:((v.code:Int) != 0)=true:=by rw[bne_iff_ne];have:=HC.o;omega
    have k1:=d5.o.c1;have k2:=d5.o.c2;have kl:=d5.o.lt;go_wp2_with fail
    refine q01 (fun w'=>w'.cell? ⟨w.heap.size+1,1,none⟩=some (.int .i64 (v.pos:Int))/\w'.cell? ⟨w.heap.size+1,2,none⟩=some (.int .i64 (v.code:Int))) 14
     (.still 0 (.still 1 (.still 2 (.still 3 (.still 4 (.still 5 (.still 6 (.still 7 (.still 8 (.still 9 (.still 10 (.two 11 (.still 12 (.one 13 .done)) 13 (.one 11 (.still 12 .done)))))))))))))) (by kernel_rfl) (by kernel_rfl) (fun _ _ d _ _ h=>by cases d<;>exact h) ⟨k1,k2⟩ (fun hS0=>?_)
    obtain⟨wd,a8⟩:=yx (World.drew w4);have a4:Hid (Below w.heap.size w wd):=vv (by rw[a8];exact q04 f2.o);have b8:Hid (Blk wd w.heap.size 33 q1y):=vv (by rw[a8];exact f1.o);have a2:Hid (w.heap.size+1<wd.heap.size):=vv (by rw[a8];exact kl);have a6:Hid (wd.cell? ⟨w.heap.size+1,1,none⟩=some (.int .i64 (v.pos:Int))/\wd.cell? ⟨w.heap.size+1,2,none⟩=some (.int .i64 (v.code:Int))):=vv (by rw[a8];exact⟨k1,k2⟩);rw[<- a8] at hS0 ⊢;clear a8 k1 k2 kl
    iterate 11
     refine q00 (v:=?_) rfl (by rfl) ?_ ?_;rotate_left
     ·intro w b9;go_simp;with_reducible rfl
     simp only[Act.put,sa,sb,sc]
    refine q28 rfl (by rfl) rfl (by rfl) (fun K hK=>?_) (fun K hK=>?_)
    ·go_simp;have a5:Below wd.heap.size wd (wd.alloc (.cells #[.int .i64 (v.code:Int),.int .i64 (v.pos:Int)] 176)):=(Below.refl _ _).alloc lr _;have HM:=vv (Blk.made wd 176 [.int .i64 (v.code:Int),.int .i64 (v.pos:Int)]);obtain⟨we,a7⟩:=yx (wd.alloc (.cells #[.int .i64 (v.code:Int),.int .i64 (v.pos:Int)] 176));have HM:Hid (Blk we wd.heap.size 176 [.int .i64 (v.code:Int),.int .i64 (v.pos:Int)]):=vv (by rw[a7];exact HM.o);rw[<- a7] at a5 ⊢;have a3:=vv a5;clear a7 a5;refine hK.out _ _ ⟨(a3.o.cell (p:=⟨w.heap.size+1,1,none⟩) a2.o).trans a6.o.1,(a3.o.cell (p:=⟨w.heap.size+1,2,none⟩) a2.o).trans a6.o.2⟩ (fun a0=>?_);clear hK hS0
     iterate 1
      refine q00 (v:=?_) rfl (by rfl) ?_ ?_;rotate_left
      ·intro w b9;go_simp;with_reducible rfl
      simp only[Act.put,sa,sb,sc]
     refine q06 rfl (by rfl) (fun K hK=>?_);refine q0O 33 (.tmp 2) (.tmp 38) rfl w.heap.size [.int .u8 0,.bool false,.bool false,.string ⟨#[]⟩,.int .i64 0,.bool false,.slice none 0 0,.int .i64 0,.int .u64 0] rfl rfl 33 q1y (b8.o.below a3.o) (by kernel_rfl) rfl rfl (fun w8 hB a1=>?_);have HK:=vv hB;have d6:=vv (HM.o.grown a1 (fun e=>by injection e with e;have:=a2.o;omega));have b5:=vv (q0a (a4.o.trans (a3.o.mono a4.o.size)) a1 (Nat.le_trans a4.o.size a3.o.size) lr);refine hK.out _ _ ⟨(q0y a1 (p:=⟨w.heap.size+1,1,none⟩) (Nat.lt_of_lt_of_le a2.o a3.o.size) (by simp)).trans a0.1,(q0y a1 (p:=⟨w.heap.size+1,2,none⟩) (Nat.lt_of_lt_of_le a2.o a3.o.size) (by simp)).trans a0.2⟩ (fun a0=>?_);clear hK hB a1 a0;refine q0d ?_;go_wp2;obtain⟨k0,k1,k2,k3,k4,k5,k6,k7,k8⟩:=HK.o.num;rw[b0.o];exact bodyPost_ret (v:=.tuple #[numV Num.none_ none 0 0,.iface 174 (.pointer (some ⟨wd.heap.size,0,none⟩))]) (by simp [results,Tryz.results81,go_sem,k0,k1,k2,k3,k4,k5,k6,k7,k8,numV,Num.none_]) rfl (.inr ⟨HC.o,wd.heap.size,rfl,a4.o.size,d6.o,b5.o⟩)
    ·refine q0O 33 (.tmp 2) (.tmp 38) rfl w.heap.size [.int .u8 0,.bool false,.bool false,.string ⟨#[]⟩,.int .i64 0,.bool false,.slice none 0 0,.int .i64 0,.int .u64 0] rfl rfl 33 q1y b8.o (by kernel_rfl) rfl rfl (fun w8 hB a1=>?_);have HK:=vv hB;have a4:Hid (Below w.heap.size w w8):=vv (q0a a4.o a1 a4.o.size lr);have h1:=(q0y a1 (p:=⟨w.heap.size+1,1,none⟩) a2.o (by simp)).trans a6.o.1;have h2:=(q0y a1 (p:=⟨w.heap.size+1,2,none⟩) a2.o (by simp)).trans a6.o.2;have a6:=vv (And.intro h1 h2);have a2:=vv (Nat.lt_of_lt_of_le a2.o a1.size);refine hK.out _ _ ⟨h1,h2⟩ (fun a0=>?_);clear hK hB a1 a0 h1 h2 hS0;refine q06 rfl (by rfl) (fun K hK=>?_);go_simp;have a5:Below w8.heap.size w8 (w8.alloc (.cells #[.int .i64 (v.code:Int),.int .i64 (v.pos:Int)] 176)):=(Below.refl _ _).alloc lr _;have HM:=vv (Blk.made w8 176 [.int .i64 (v.code:Int),.int .i64 (v.pos:Int)]);obtain⟨we,a7⟩:=yx (w8.alloc (.cells #[.int .i64 (v.code:Int),.int .i64 (v.pos:Int)] 176));have HM:Hid (Blk we w8.heap.size 176 [.int .i64 (v.code:Int),.int .i64 (v.pos:Int)]):=vv (by rw[a7];exact HM.o);rw[<- a7] at a5 ⊢;have a3:=vv a5;have d7:=vv (HK.o.below a5);clear a7 a5;refine hK.out _ _ ⟨(a3.o.cell (p:=⟨w.heap.size+1,1,none⟩) a2.o).trans a6.o.1,(a3.o.cell (p:=⟨w.heap.size+1,2,none⟩) a2.o).trans a6.o.2⟩ (fun a0=>?_);clear hK a0
     iterate 1
      refine q00 (v:=?_) rfl (by rfl) ?_ ?_;rotate_left
      ·intro w b9;go_simp;with_reducible rfl
      simp only[Act.put,sa,sb,sc]
     refine q0d ?_;go_wp2;obtain⟨k0,k1,k2,k3,k4,k5,k6,k7,k8⟩:=d7.o.num;rw[b0.o];exact bodyPost_ret (v:=.tuple #[numV Num.none_ none 0 0,.iface 174 (.pointer (some ⟨w8.heap.size,0,none⟩))]) (by simp [results,Tryz.results81,go_sem,k0,k1,k2,k3,k4,k5,k6,k7,k8,numV,Num.none_]) rfl (.inr ⟨HC.o,w8.heap.size,rfl,a4.o.size,HM.o,a4.o.trans (a3.o.mono a4.o.size)⟩)
  ·have HC:=vv hc;have b0:Hid (q3z s=(Num.none_,u.code,u.pos)):=vv (by
    have b4:(if u.code=0/\u.rest.size≠0 then u.fail 113 else u)=u:=if_neg (fun h=>hc h.1);rw[HE.o,b4,if_neg hc])
   have t0:((u.code:Int)==0)=false:=by rw[beq_eq_false_iff_ne];omega
   obtain⟨w3,b1⟩:=yx (w2.alloc (.cells #[.int .u8 (x.kind:Int),.bool x.neg,.bool x.dneg,.string ⟨x.digits.toArray⟩,.int .i64 x.exp,.bool x.hneg,.slice A m c,.int .i64 x.hexp,.int .u64 (x.payload:Int)] 33));have a9:Below w2.heap.size w2 w3:=by rw[b1];exact(Below.refl _ _).alloc lr _
   have d3:=vv (c9.o.below a9);have b6:=vn b3 a9;have d8:=vv (c4.o.below a9 c4.o.lt);have d4:=vv b1;clear hc b1 a9;have b7:((u.code:Int) != 0)=true:=by rw[bne_iff_ne];have:=HC.o;omega
   have k1:=d8.o.c1;have k2:=d8.o.c2;have kl:=d8.o.lt;go_wp2_with fail
   rw[<- d4.o];refine q01 (fun w'=>w'.cell? ⟨w.heap.size+1,1,none⟩=some (.int .i64 (u.pos:Int))/\w'.cell? ⟨w.heap.size+1,2,none⟩=some (.int .i64 (u.code:Int))) 14
    (.still 0 (.still 1 (.still 2 (.still 3 (.still 4 (.still 5 (.still 6 (.still 7 (.still 8 (.still 9 (.still 10 (.two 11 (.still 12 (.one 13 .done)) 13 (.one 11 (.still 12 .done)))))))))))))) (by kernel_rfl) (by kernel_rfl) (fun _ _ d _ _ h=>by cases d<;>exact h) ⟨k1,k2⟩ (fun hS0=>?_)
   obtain⟨wd,a8⟩:=yx (World.drew w3);have a4:Hid (Below w.heap.size w wd):=vv (by rw[a8];exact q04 b6.o);have b8:Hid (Blk wd w.heap.size 33 q1y):=vv (by rw[a8];exact d3.o);have a2:Hid (w.heap.size+1<wd.heap.size):=vv (by rw[a8];exact kl);have a6:Hid (wd.cell? ⟨w.heap.size+1,1,none⟩=some (.int .i64 (u.pos:Int))/\wd.cell? ⟨w.heap.size+1,2,none⟩=some (.int .i64 (u.code:Int))):=vv (by rw[a8];exact⟨k1,k2⟩);rw[<- a8] at hS0 ⊢;clear a8 k1 k2 kl
   iterate 11
    refine q00 (v:=?_) rfl (by rfl) ?_ ?_;rotate_left
    ·intro w b9;go_simp;with_reducible rfl
    simp only[Act.put,sa,sb,sc]
   refine q28 rfl (by rfl) rfl (by rfl) (fun K hK=>?_) (fun K hK=>?_)
   ·go_simp;have a5:Below wd.heap.size wd (wd.alloc (.cells #[.int .i64 (u.code:Int),.int .i64 (u.pos:Int)] 176)):=(Below.refl _ _).alloc lr _;have HM:=vv (Blk.made wd 176 [.int .i64 (u.code:Int),.int .i64 (u.pos:Int)]);obtain⟨we,a7⟩:=yx (wd.alloc (.cells #[.int .i64 (u.code:Int),.int .i64 (u.pos:Int)] 176));have HM:Hid (Blk we wd.heap.size 176 [.int .i64 (u.code:Int),.int .i64 (u.pos:Int)]):=vv (by rw[a7];exact HM.o);rw[<- a7] at a5 ⊢;have a3:=vv a5;clear a7 a5;refine hK.out _ _ ⟨(a3.o.cell (p:=⟨w.heap.size+1,1,none⟩) a2.o).trans a6.o.1,(a3.o.cell (p:=⟨w.heap.size+1,2,none⟩) a2.o).trans a6.o.2⟩ (fun a0=>?_);clear hK hS0
    iterate 1
     refine q00 (v:=?_) rfl (by rfl) ?_ ?_;rotate_left
     ·intro w b9;go_simp;with_reducible rfl
     simp only[Act.put,sa,sb,sc]
    refine q06 rfl (by rfl) (fun K hK=>?_);refine q0O 33 (.tmp 2) (.tmp 38) rfl w.heap.size [.int .u8 0,.bool false,.bool false,.string ⟨#[]⟩,.int .i64 0,.bool false,.slice none 0 0,.int .i64 0,.int .u64 0] rfl rfl 33 q1y (b8.o.below a3.o) (by kernel_rfl) rfl rfl (fun w8 hB a1=>?_);have HK:=vv hB;have d6:=vv (HM.o.grown a1 (fun e=>by injection e with e;have:=a2.o;omega));have b5:=vv (q0a (a4.o.trans (a3.o.mono a4.o.size)) a1 (Nat.le_trans a4.o.size a3.o.size) lr);refine hK.out _ _ ⟨(q0y a1 (p:=⟨w.heap.size+1,1,none⟩) (Nat.lt_of_lt_of_le a2.o a3.o.size) (by simp)).trans a0.1,(q0y a1 (p:=⟨w.heap.size+1,2,none⟩) (Nat.lt_of_lt_of_le a2.o a3.o.size) (by simp)).trans a0.2⟩ (fun a0=>?_);clear hK hB a1 a0;refine q0d ?_;go_wp2;obtain⟨k0,k1,k2,k3,k4,k5,k6,k7,k8⟩:=HK.o.num;rw[b0.o];exact bodyPost_ret (v:=.tuple #[numV Num.none_ none 0 0,.iface 174 (.pointer (some ⟨wd.heap.size,0,none⟩))]) (by simp [results,Tryz.results81,go_sem,k0,k1,k2,k3,k4,k5,k6,k7,k8,numV,Num.none_]) rfl (.inr ⟨HC.o,wd.heap.size,rfl,a4.o.size,d6.o,b5.o⟩)
   ·refine q0O 33 (.tmp 2) (.tmp 38) rfl w.heap.size [.int .u8 0,.bool false,.bool false,.string ⟨#[]⟩,.int .i64 0,.bool false,.slice none 0 0,.int .i64 0,.int .u64 0] rfl rfl 33 q1y b8.o (by kernel_rfl) rfl rfl (fun w8 hB a1=>?_);have HK:=vv hB;have a4:Hid (Below w.heap.size w w8):=vv (q0a a4.o a1 a4.o.size lr);have h1:=(q0y a1 (p:=⟨w.heap.size+1,1,none⟩) a2.o (by simp)).trans a6.o.1;have h2:=(q0y a1 (p:=⟨w.heap.size+1,2,none⟩) a2.o (by simp)).trans a6.o.2;have a6:=vv (And.intro h1 h2);have a2:=vv (Nat.lt_of_lt_of_le a2.o a1.size);refine hK.out _ _ ⟨h1,h2⟩ (fun a0=>?_);clear hK hB a1 a0 h1 h2 hS0;refine q06 rfl (by rfl) (fun K hK=>?_);go_simp;have a5:Below w8.heap.size w8 (w8.alloc (.cells #[.int .i64 (u.code:Int),.int .i64 (u.pos:Int)] 176)):=(Below.refl _ _).alloc lr _;have HM:=vv (Blk.made w8 176 [.int .i64 (u.code:Int),.int .i64 (u.pos:Int)]);obtain⟨we,a7⟩:=yx (w8.alloc (.cells #[.int .i64 (u.code:Int),.int .i64 (u.pos:Int)] 176));have HM:Hid (Blk we w8.heap.size 176 [.int .i64 (u.code:Int),.int .i64 (u.pos:Int)]):=vv (by rw[a7];exact HM.o);rw[<- a7] at a5 ⊢;have a3:=vv a5;have d7:=vv (HK.o.below a5);clear a7 a5;refine hK.out _ _ ⟨(a3.o.cell (p:=⟨w.heap.size+1,1,none⟩) a2.o).trans a6.o.1,(a3.o.cell (p:=⟨w.heap.size+1,2,none⟩) a2.o).trans a6.o.2⟩ (fun a0=>?_);clear hK a0
    iterate 1
     refine q00 (v:=?_) rfl (by rfl) ?_ ?_;rotate_left
     ·intro w b9;go_simp;with_reducible rfl
     simp only[Act.put,sa,sb,sc]
    refine q0d ?_;go_wp2;obtain⟨k0,k1,k2,k3,k4,k5,k6,k7,k8⟩:=d7.o.num;rw[b0.o];exact bodyPost_ret (v:=.tuple #[numV Num.none_ none 0 0,.iface 174 (.pointer (some ⟨w8.heap.size,0,none⟩))]) (by simp [results,Tryz.results81,go_sem,k0,k1,k2,k3,k4,k5,k6,k7,k8,numV,Num.none_]) rfl (.inr ⟨HC.o,w8.heap.size,rfl,a4.o.size,HM.o,a4.o.trans (a3.o.mono a4.o.size)⟩)
end Go.Proofs.YtcdimmblnbkjjaaGreatDoor.Scn
