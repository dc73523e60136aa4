/- Lemmas. -/
import Derived.Test.YtcdimmblnbkjjaaGreatDoorPartBA
import Derived.Lib.OthersKept
import Derived.Lib.QuoteLoop
import Derived.Lib.MapLaws
import Derived.Lib.TrimUEq
set_option linter.all false
set_option maxRecDepth 100000
namespace Go.Proofs.YtcdimmblnbkjjaaGreatDoor.Scn
open Go Go.RowKit
theorem qaI{s:St}{p:ByteArray}(h:s.has p.data.toList=true):s.past p=s.skip p.size:=by unfold St.past;rw[h];rfl
theorem qaJ{s:St}{p:ByteArray}(h:s.has p.data.toList=false):s.past p=s:=by unfold St.past;rw[h];rfl
theorem q65(b:Nat)(s:St)(p:ByteArray)(w:World)(h:ScAt w b s)(hb:s.has p.data.toList=true):
  Calls Tryz.prog 221 #[.pointer (some ⟨b,0,none⟩),.string p] w (ScP b (s.skip p.size) (.bool true) w):=by
 have:=has b s p w h
 rwa [qaI hb,hb] at this
theorem q55(b:Nat)(s:St)(p:ByteArray)(w:World)(h:ScAt w b s)(hb:s.has p.data.toList=false):
  Calls Tryz.prog 221 #[.pointer (some ⟨b,0,none⟩),.string p] w (ScP b s (.bool false) w):=by
 have:=has b s p w h
 rwa [qaJ hb,hb] at this
theorem minus(b:Nat)(s:St)(w:World)(h:ScAt w b s):
  Calls Tryz.prog 173 #[.pointer (some ⟨b,0,none⟩)] w (ScP b s.minus.2 (.bool s.minus.1) w):=by
 cases h1:s.has [43] with
 | true =>
  have HE:Hid (s.minus=(false,s.skip 1)):=vv (by unfold St.minus;rw[h1];rfl);have H1:=vv (q65 b s ⟨#[43]⟩ w h h1);clear h h1;go_enter Tryz.func173,Tryz.ntmps173
  go_wp2_with fail
  refine H1.o.mono ?_;rintro e w1 ⟨rfl,hS,hG⟩;go_wp2;go_ret
  exact⟨by rw[HE.o];rfl,by rw[HE.o];exact hS,hG⟩
 | false =>
  have H1:=vv (q55 b s ⟨#[43]⟩ w h h1);cases h2:s.has [45] with
  | true =>
   have HE:Hid (s.minus=(true,s.skip 1)):=vv (by unfold St.minus;rw[h1,h2];rfl);have HH:=vv h2;clear h h1 h2;go_enter Tryz.func173,Tryz.ntmps173
   go_wp2_with fail
   refine H1.o.mono ?_;rintro e w1 ⟨rfl,hS,hG⟩;have HG:=vv hG;have H2:=vv (q65 b s ⟨#[45]⟩ w1 hS HH.o);clear hS hG;go_wp2_with fail
   refine H2.o.mono ?_;rintro e w2 ⟨rfl,hS,hG⟩;go_wp2;go_ret
   exact⟨by rw[HE.o];rfl,by rw[HE.o];exact hS,q02 HG.o hG⟩
  | false =>
   cases h3:s.has [226,136,146] with
   | true =>
    have HE:Hid (s.minus=(true,s.skip 3)):=vv (by unfold St.minus;rw[h1,h2,h3];rfl);have HH:=vv h2;have HK:=vv h3;clear h h1 h2 h3;go_enter Tryz.func173,Tryz.ntmps173
    go_wp2_with fail
    refine H1.o.mono ?_;rintro e w1 ⟨rfl,hS,hG⟩;have HG:=vv hG;have H2:=vv (q55 b s ⟨#[45]⟩ w1 hS HH.o);clear hS hG;go_wp2_with fail
    refine H2.o.mono ?_;rintro e w2 ⟨rfl,hS,hG⟩;have HG:=vv (q02 HG.o hG);have H3:=vv (q65 b s ⟨#[226,136,146]⟩ w2 hS HK.o);clear hS hG;go_wp2_with fail
    refine H3.o.mono ?_;rintro e w2 ⟨rfl,hS,hG⟩;go_wp2;go_ret
    exact⟨by rw[HE.o];rfl,by rw[HE.o];exact hS,q02 HG.o hG⟩
   | false =>
    have HE:Hid (s.minus=(false,s)):=vv (by unfold St.minus;rw[h1,h2,h3];rfl);have HH:=vv h2;have HK:=vv h3;clear h h1 h2 h3;go_enter Tryz.func173,Tryz.ntmps173
    go_wp2_with fail
    refine H1.o.mono ?_;rintro e w1 ⟨rfl,hS,hG⟩;have HG:=vv hG;have H2:=vv (q55 b s ⟨#[45]⟩ w1 hS HH.o);clear hS hG;go_wp2_with fail
    refine H2.o.mono ?_;rintro e w2 ⟨rfl,hS,hG⟩;have HG:=vv (q02 HG.o hG);have H3:=vv (q55 b s ⟨#[226,136,146]⟩ w2 hS HK.o);clear hS hG;go_wp2_with fail
    refine H3.o.mono ?_;rintro e w2 ⟨rfl,hS,hG⟩;go_wp2;go_ret
    exact⟨by rw[HE.o];rfl,by rw[HE.o];exact hS,q02 HG.o hG⟩
def zt:ByteArray:=⟨#[48,217,160,219,176,223,128,224,165,166,224,167,166,224,169,166,224,185,144,225,159,160,239,188,144,240,144,146,160,240,157,159,142]⟩
def off(k:Nat):Nat:=[0,1,3,5,7,10,13,16,19,22,25,29,33].getD k 33
theorem q9h:zt.size=33:=rfl
theorem qbh:∀k:Fin 12,off k.val<33/\Utf8.decode zt (off k.val)=(q13.getD k.val 0,off (k.val+1)-off k.val)/\off k.val<off (k.val+1)/\q13.getD k.val 0<200000/\q13.drop k.val=q13.getD k.val 0::q13.drop (k.val+1):=by decide +kernel
def q8G(r:Nat):Value:=.tuple #[.int .i64 (((q0Y q13 r).getD 0:Nat):Int),.bool (q0Y q13 r).isSome]
theorem qbI(r:Nat)(w:World)(hr:r<=2147483647):
  Calls Tryz.prog 223 #[.int .i32 (r:Int)] w fun e w'=>e=.returned (q8G r)/\Below w.heap.size w w':=by
 have a1:(r:Int)<=2147483647:=by omega
 have HB:Hid (∀p,Below w.heap.size w (w.iter zt p)):=vv fun p=>(Below.refl _ w).alloc lr _
 clear hr;go_enter Tryz.func223,Tryz.ntmps223
 go_wp2;go_loopw [5] (fun _ wr=>∃k,k<=12/\wr=w.iter zt (off k)/\q0Y q13 r=q0Y (q13.drop k) r) (fun _ wr=>33-wr.iterPos w.heap.size)
 case atStart=>exact⟨0,by decide,rfl,rfl⟩
 case round =>
  obtain⟨k,hk,rfl,hd⟩:=hrel;by_cases hk12:k<12
  ·obtain⟨p1,p2,p3,p4,p5⟩:=qbh ⟨k,hk12⟩;simp only at p1 p2 p3 p4 p5;have a0:∀ty,(Instr.next (.pointer (some ⟨w.heap.size,0,none⟩)) true ty).run Tryz.prog (w.iter zt (off k))=_:=fun ty=>run_next_any w zt (off k) ty (by rw[q9h];exact p1)
   rw[p2] at a0;obtain⟨z,hz⟩:=yx (q13.getD k 0);rw[<- hz] at a0 p4 p5;have a2:(z:Int)<=200000:=by omega
   have e1:off k+(off (k+1)-off k)=off (k+1):=by omega
   simp only[e1] at a0;rw[p5] at hd;have HD:=vv hd;have HM:Hid (33-(w.iter zt (off (k+1))).iterPos w.heap.size<33-(w.iter zt (off k)).iterPos w.heap.size):=vv (by rw[World.iterPos_iter,World.iterPos_iter];omega);clear hd p1 p2 p3 p4 p5 hz e1;by_cases g1:z<=r
   ·by_cases g2:r<=z+9
    ·have HE:Hid (q8G r=.tuple #[.int .i64 ((r:Int)-(z:Int)),.bool true]):=vv (by
      unfold q8G;rw[HD.o];unfold q0Y;rw[if_pos ⟨g1,g2⟩];have:((r-z:Nat):Int)=(r:Int)-(z:Int):=by omega
      show Value.tuple #[.int .i64 ((r-z:Nat):Int),.bool true]=_;rw[this])
     go_wp2;go_ret2
     exact⟨by rw[HE.o];rfl,HB.o _⟩
    ·have HN:Hid (q0Y q13 r=q0Y (q13.drop (k+1)) r):=vv (by rw[HD.o];conv=>lhs;unfold q0Y;rw[if_neg (fun h=>g2 h.2)])
     go_wp2;go_roundw
     case rel=>exact⟨k+1,by omega,rfl,HN.o⟩
     case measure=>exact HM.o
   ·have HN:Hid (q0Y q13 r=q0Y (q13.drop (k+1)) r):=vv (by rw[HD.o];conv=>lhs;unfold q0Y;rw[if_neg (fun h=>g1 h.1)])
    go_wp2;go_roundw
    case rel=>exact⟨k+1,by omega,rfl,HN.o⟩
    case measure=>exact HM.o
  ·obtain rfl:k=12:=by omega
   have a0:∀ty,(Instr.next (.pointer (some ⟨w.heap.size,0,none⟩)) true ty).run Tryz.prog (w.iter zt (off 12))=_:=fun ty=>run_next_end w zt (off 12) ty (by decide)
   have HE:Hid (q8G r=.tuple #[.int .i64 0,.bool false]):=vv (by unfold q8G;rw[hd];rfl);clear hd hk hk12;go_wp2;go_ret2
   exact⟨by rw[HE.o];rfl,HB.o _⟩
theorem q4B:∀(l:List Nat) {r d:Nat},q0Y l r=some d->d<10
 | [],_,_,h=>by cases h
 | z::l,r,d,h=>by
  unfold q0Y at h;split at h
  ·cases h;omega
  ·exact q4B l h
def q6R(p:Nat × Nat):Value:=.tuple #[.int .i64 (p.1:Int),.int .i64 (p.2:Int)]
theorem qbL(t:ByteArray)(w:World):
  Calls Tryz.prog 175 #[.string t] w fun e w'=>e=.returned (q6R (ten t))/\Below w.heap.size w w':=by
 have HB:Hid (∀p,Below w.heap.size w (w.iter t p)):=vv fun p=>(Below.refl _ w).alloc lr _
 rcases Nat.eq_zero_or_pos t.size with h0|h0
 ·have HE:Hid (q6R (ten t)=.tuple #[.int .i64 0,.int .i64 0]):=vv (by unfold ten;rw[if_pos h0];rfl);have a3:∀ty,(Instr.next (.pointer (some ⟨w.heap.size,0,none⟩)) true ty).run Tryz.prog (w.iter t 0)=_:=fun ty=>run_next_end w t 0 ty (by omega)
  clear h0;go_enter Tryz.func175,Tryz.ntmps175
  go_wp2;go_loopw [5] (fun _ wr=>wr=w.iter t 0) (fun _ _=>0)
  case atStart=>rfl
  case round =>
   subst hrel;go_wp2;go_ret2
   exact⟨by rw[HE.o];rfl,HB.o _⟩
 ·have a3:∀ty,(Instr.next (.pointer (some ⟨w.heap.size,0,none⟩)) true ty).run Tryz.prog (w.iter t 0)=_:=fun ty=>run_next_any w t 0 ty h0
  have a4:=decode_le t 0;have hT:ten t=match q0Y q13 (Utf8.decode t 0).1 with|some d=>(d,(Utf8.decode t 0).2)|none=>(0,0):=by unfold ten;rw[if_neg (by omega)];rfl
  have a0:(Utf8.decode t 0).1≠65533->Lib.runeLen ((Utf8.decode t 0).1:Int)=((Utf8.decode t 0).2:Int):=by
   have e:=Lib.decodeL_drop t 0;rw[List.drop_zero] at e;intro h;have:=Lib.runeLen_decode t.data.toList (by rw[e];exact h)
   rwa [e] at this
  obtain⟨R,hR⟩:=yx ((Utf8.decode t 0).1);obtain⟨K,hK⟩:=yx ((Utf8.decode t 0).2);rw[<- hR] at a3 a4 hT a0;rw[<- hK] at a3 hT a0;have a2:=vv fun w=>qbI R w a4
  have a5:=vv fun w=>Tryz.utf8_RuneLen (R:Int) w
  have a8:(R:Int)<=2147483647:=by omega
  clear hR hK h0 a4;cases hd:q0Y q13 R with
  | some d =>
   have HE:Hid (ten t=(d,K)):=vv (by rw[hT,hd]);have a7:R≠65533:=by
    rintro rfl;have:q0Y q13 65533=none:=by decide
    rw[this] at hd;cases hd
   have HR:=vv (a0 a7);have HV:Hid (q8G R=.tuple #[.int .i64 (d:Int),.bool true]):=vv (by unfold q8G;rw[hd];rfl);rw[HV.o] at a2;rw[HR.o] at a5;clear hd hT a0 a7;go_enter Tryz.func175,Tryz.ntmps175
   go_wp2;go_loopw [5] (fun _ wr=>wr=w.iter t 0) (fun _ _=>0)
   case atStart=>rfl
   case round =>
    subst hrel;go_wp2_with fail
    refine(a2.o _).mono ?_;rintro e w1 ⟨rfl,a1⟩;have a6:=vv ((HB.o _).trans (a1.mono (HB.o _).size));clear a1;go_wp2_with fail
    refine(a5.o _).mono ?_;rintro e w2 ⟨rfl,hw⟩;subst hw;go_wp2;go_ret2
    exact⟨by rw[HE.o];rfl,a6.o⟩
  | none =>
   have HE:Hid (ten t=(0,0)):=vv (by rw[hT,hd]);have HV:Hid (q8G R=.tuple #[.int .i64 0,.bool false]):=vv (by unfold q8G;rw[hd];rfl);rw[HV.o] at a2;clear hd hT a0 a5;go_enter Tryz.func175,Tryz.ntmps175
   go_wp2;go_loopw [5] (fun _ wr=>wr=w.iter t 0) (fun _ _=>0)
   case atStart=>rfl
   case round =>
    subst hrel;go_wp2_with fail
    refine(a2.o _).mono ?_;rintro e w1 ⟨rfl,a1⟩;have a6:=vv ((HB.o _).trans (a1.mono (HB.o _).size));clear a1;go_wp2;go_ret2
    exact⟨by rw[HE.o];rfl,a6.o⟩
theorem q4i(t:ByteArray):(ten t).1<10/\(ten t).2<=t.size:=by
 unfold ten;split
 ·exact⟨by decide,by omega⟩
 ·split
  ·rename_i h0 d hd;exact⟨q4B _ hd,Lib.width_le t (by omega)⟩
  ·exact⟨by decide,Nat.zero_le _⟩
def st:List UInt8:=[48,49,50,51,52,53,54,55,56,57,97,98,99,100,101,102,65,66,67,68,69,70]
theorem qbl:∀c:Fin 256,((q7J c.val).isNone=true/\Lib.indexByte st c.val.toUInt8 = -1)\/((q7J c.val).isSome=true/\(q7J c.val).getD 0<16/\(Lib.indexByte st c.val.toUInt8=(((q7J c.val).getD 0:Nat):Int)\/Lib.indexByte st c.val.toUInt8=(((q7J c.val).getD 0:Nat):Int)+6/\10<=(q7J c.val).getD 0)):=by decide +kernel
theorem q7Z(t:ByteArray)(w:World):
  Calls Tryz.prog 227 #[.string t] w fun e w'=>e=.returned (q6R (q14 t))/\Below w.heap.size w w':=by
 rcases Nat.eq_zero_or_pos t.size with h0|h0
 ·have HE:Hid (q6R (q14 t)=.tuple #[.int .i64 0,.int .i64 0]):=vv (by unfold q14;rw[if_pos h0];rfl);obtain rfl:t=⟨#[]⟩:=ByteArray.ext (Array.eq_empty_of_size_eq_zero h0);clear h0;go_enter Tryz.func227,Tryz.ntmps227
  go_wp2;go_ret2
  exact⟨by rw[HE.o];rfl,Below.refl _ _⟩
 ·have h1:=q1V h0;have hg:t.get! 0=t[0]:=get_at t 0 h0;have hT:q14 t=match q7J (t[0]).toNat with|some d=>(d,1)|none=>(0,0):=by unfold q14;rw[if_neg (by omega),hg];rfl
  obtain⟨c,hc⟩:∃c,(t[0]).toNat=c:=⟨_,rfl⟩;have a0:c<256:=by rw[<- hc];exact UInt8.toNat_lt _
  rw[hc] at hT;have hS:=qbl ⟨c,a0⟩;simp only at hS;have HI:=vv (Tryz.strings_IndexByte ⟨st.toArray⟩ (c:Int) w);rw[show(⟨st.toArray⟩:ByteArray).data.toList=st from rfl,show(c:Int).toNat=c from rfl] at HI;obtain⟨I,hI⟩:=yx (Lib.indexByte st c.toUInt8);rw[<- hI] at HI hS;cases hd:q7J c with
  | some d =>
   rw[hd] at hS hT;have HE:=vv hT;replace hS:(I=(d:Int)/\d<16)\/(I=(d:Int)+6/\10<=d/\d<16):=by
    rcases hS with ⟨h,_⟩|⟨_,h,k|⟨k,l⟩⟩
    ·cases h
    ·exact .inl ⟨k,h⟩
    ·exact .inr ⟨k,l,h⟩
   rcases hS with ⟨hS,a1⟩|⟨hS,a2,a3⟩
   ·have a4:I<16:=by omega
    have a5:0<=I:=by omega
    have HS:=vv hS;clear hS a1 hd hT hI hg a0;go_enter Tryz.func227,Tryz.ntmps227
    go_wp2_with fail
    refine HI.o.mono ?_;rintro e w1 ⟨rfl,hw⟩;subst hw;go_wp2;go_ret2
    exact⟨by rw[HE.o,HS.o];rfl,Below.refl _ _⟩
   ·have a4:16<=I:=by omega
    have a6:I<=22:=by omega
    have HS:Hid (I-6=(d:Int)):=vv (by omega);clear hS a2 a3 hd hT hI hg a0;go_enter Tryz.func227,Tryz.ntmps227
    go_wp2_with fail
    refine HI.o.mono ?_;rintro e w1 ⟨rfl,hw⟩;subst hw;go_wp2;go_ret2
    exact⟨by rw[HE.o,HS.o];rfl,Below.refl _ _⟩
  | none =>
   rw[hd] at hS hT;have HE:=vv hT;have hS:I = -1:=by
    rcases hS with ⟨_,h⟩|⟨h,_⟩
    ·exact h
    ·cases h
   subst hS;clear hd hT hI hg a0;go_enter Tryz.func227,Tryz.ntmps227
   go_wp2_with fail
   refine HI.o.mono ?_;rintro e w1 ⟨rfl,hw⟩;subst hw;go_wp2;go_ret2
   exact⟨by rw[HE.o];rfl,Below.refl _ _⟩
theorem q3U(t:ByteArray):(q14 t).1<16/\(q14 t).2<=t.size:=by
 unfold q14;split
 ·exact⟨by decide,by omega⟩
 ·split
  ·rename_i h0 d hd;refine⟨?_,by omega⟩;unfold q7J at hd
   repeat' split at hd
   all_goals first|(cases hd;omega)|cases hd
  ·exact⟨by decide,Nat.zero_le _⟩
end Go.Proofs.YtcdimmblnbkjjaaGreatDoor.Scn
namespace Go.Proofs.YtcdimmblnbkjjaaGreatDoor
open Go Go.RowKit
theorem q0f{a w w':World}{b:Nat}{row:Option Nat}(h:a.grownBy w (some b))(hg:w.grownBy w' row)(hr:∀k,row=some k->a.heap.size<=k):a.grownBy w' (some b):=
 ⟨hg.os.trans h.os,hg.tape.trans h.tape,hg.output.trans h.output,Nat.le_trans h.size hg.size,fun i hi hne=>(hg.block i (Nat.lt_of_lt_of_le hi h.size) (fun e=>by have:=hr i e.symm;omega)).trans (h.block i hi hne)⟩
def ahead(w:World)(b:Nat):Nat:=match w.cell? ⟨b,0,none⟩ with|some (.string r)=>r.size|_=>0
theorem ScAt.ahead{w:World}{b:Nat}{s:Scn.St}(h:ScAt w b s):ahead w b=s.rest.size:=by unfold Go.Proofs.YtcdimmblnbkjjaaGreatDoor.ahead;rw[h.c0]
theorem q9R:(Tryz.prog.info? 5).map (fun i=>(i.zero,i.size,i.bytes))=some (some (.int .u8 0),1,1):=by kernel_rfl
end Go.Proofs.YtcdimmblnbkjjaaGreatDoor
namespace Go.Proofs.YtcdimmblnbkjjaaGreatDoor.Scn
open Go Go.RowKit
structure Kind(K:Nat)(D:ByteArray->Nat × Nat):Prop where
 go:∀args w,(callFunc K args).run Tryz.prog w=.ok (.enter K args) w
 calls:∀t w,Calls Tryz.prog K #[.string t] w fun e w'=>e=.returned (q6R (D t))/\Below w.heap.size w w'
 small:∀t,(D t).1<16/\(D t).2<=t.size
def q1d(D:ByteArray->Nat × Nat)(s u:St)(L:List Nat):Prop:=
 (u.code≠0/\s.row D=(L,u))\/(u.code=0/\∃f,s.row D=q3x D f u L/\u.rest.size<f)
theorem q1d.start(D:ByteArray->Nat × Nat)(s:St)(h:pre s.rest [95]=false):q1d D s s []:=by
 by_cases hc:s.code=0
 ·exact .inr ⟨hc,s.rest.size+1,by unfold St.row;rw[if_neg (fun h=>h hc),h];rfl,by omega⟩
 ·exact .inl ⟨hc,by unfold St.row;rw[if_pos hc]⟩
theorem q1d.start_off(D:ByteArray->Nat × Nat)(s:St)(hc:s.code≠0):q1d D s s []:=.inl ⟨hc,by unfold St.row;rw[if_pos hc]⟩
theorem q1d.start_bad(D:ByteArray->Nat × Nat)(s:St)(h:pre s.rest [95]=true)(hc:s.code=0):q1d D s (s.put 112) []:=
 .inl ⟨by show(112:Nat)≠0;decide,by unfold St.row;rw[if_neg (fun h=>h hc),h];rfl⟩
theorem q9B{r:ByteArray}{c:UInt8}(h:pre r [c]=true):1<=r.size:=q8Y (p:=⟨#[c]⟩) h
theorem q4j(s:St)(n:Nat):(s.skip n).code=s.code:=rfl
theorem q0U(s:St)(n:Nat):(s.skip n).rest.size=s.rest.size-n:=drop_size _ _
theorem q1W(D:ByteArray->Nat × Nat)(f:Nat)(s:St)(l:List Nat):q3x D (f+1) s l =
  if(D s.rest).2=0 then(l,s) else
  if pre (s.skip (D s.rest).2).rest [95] then
   if(D (drop (s.skip (D s.rest).2).rest 1)).2=0 then(l++[(D s.rest).1],(s.skip (D s.rest).2).put 112)
   else q3x D f ((s.skip (D s.rest).2).skip 1) (l++[(D s.rest).1])
  else q3x D f (s.skip (D s.rest).2) (l++[(D s.rest).1]):=rfl
theorem q1d.off{D:ByteArray->Nat × Nat}{s u:St}{L:List Nat}(h:q1d D s u L)(hc:u.code≠0):s.row D=(L,u):=by
 rcases h with ⟨_,h⟩|⟨h,_⟩
 ·exact h
 ·exact absurd h hc
theorem q1d.stop{D:ByteArray->Nat × Nat}{s u:St}{L:List Nat}(h:q1d D s u L)(hc:u.code=0)(hn:(D u.rest).2=0):s.row D=(L,u):=by
 rcases h with ⟨h,_⟩|⟨_,f,h,hf⟩
 ·exact absurd hc h
 ·obtain⟨f,rfl⟩:∃k,f=k+1:=⟨f-1,by omega⟩;rw[h,q1W,if_pos hn]
theorem q1d.next{D:ByteArray->Nat × Nat}{s u:St}{L:List Nat}(h:q1d D s u L)(hc:u.code=0){n d:Nat}(he:D u.rest=(d,n))(hn:n≠0)(hle:n<=u.rest.size)(hp:pre (u.skip n).rest [95]=false):q1d D s (u.skip n) (L++[d]):=by
 rcases h with ⟨h,_⟩|⟨_,f,h,hf⟩
 ·exact absurd hc h
 ·obtain⟨f,rfl⟩:∃k,f=k+1:=⟨f-1,by omega⟩;refine .inr ⟨hc,f,?_,by show(drop u.rest n).size<f;rw[drop_size];omega⟩;rw[h,q1W,he];dsimp only;rw[if_neg hn,hp];rfl
theorem q1d.bad{D:ByteArray->Nat × Nat}{s u:St}{L:List Nat}(h:q1d D s u L)(hc:u.code=0){n d:Nat}(he:D u.rest=(d,n))(hn:n≠0)(hp:pre (u.skip n).rest [95]=true)(hz:(D (drop (u.skip n).rest 1)).2=0):s.row D=(L++[d],(u.skip n).put 112):=by
 rcases h with ⟨h,_⟩|⟨_,f,h,hf⟩
 ·exact absurd hc h
 ·obtain⟨f,rfl⟩:∃k,f=k+1:=⟨f-1,by omega⟩;rw[h,q1W,he];dsimp only;rw[if_neg hn,hp,if_pos rfl,if_pos hz]
theorem q1d.over{D:ByteArray->Nat × Nat}{s u:St}{L:List Nat}(h:q1d D s u L)(hc:u.code=0){n d:Nat}(he:D u.rest=(d,n))(hn:n≠0)(hle:n<=u.rest.size)(hp:pre (u.skip n).rest [95]=true)(hz:(D (drop (u.skip n).rest 1)).2≠0):q1d D s ((u.skip n).skip 1) (L++[d]):=by
 rcases h with ⟨h,_⟩|⟨_,f,h,hf⟩
 ·exact absurd hc h
 ·obtain⟨f,rfl⟩:∃k,f=k+1:=⟨f-1,by omega⟩;have h1:((u.skip n).skip 1).code=0:=by rw[q4j,q4j];exact hc
  have h2:((u.skip n).skip 1).rest.size<f:=by rw[q0U,q0U];omega
  refine .inr ⟨h1,f,?_,h2⟩;rw[h,q1W,he];dsimp only;rw[if_neg hn,hp,if_pos rfl,if_neg hz]
def q25(D:ByteArray->Nat × Nat)(b:Nat)(s:St)(w:World)(l:Value)(wr:World):Prop:=
 ∃(u:St) (L:List Nat),wr.ownsRow w.heap.size 5 1 l L.length (u8s L)/\ScAt wr b u/\w.grownBy wr (some b)/\q1d D s u L/\L.length+u.rest.size<=65536/\∀d∈L,d<16
def q1c(b:Nat)(L:List Nat)(u:St)(w:World)(e:Ending)(w':World):Prop:=
 ∃v,e=.returned v/\w'.ownsRow w.heap.size 5 1 v L.length (u8s L)/\ScAt w' b u/\w.grownBy w' (some b)/\L.length<=65536/\∀d∈L,d<16
theorem q25.start{D:ByteArray->Nat × Nat}{b:Nat}{s:St}{w:World}(h:ScAt w b s)(hr:q1d D s s []):q25 D b s w (.slice none 0 0) w:=
 ⟨s,[],World.ownsRow_nil w _ _ _,h,World.grownBy.refl _ _,hr,by have:=h.sm;rw[List.length_nil];omega,fun _ h=>absurd h List.not_mem_nil⟩
theorem q25.start_bad{D:ByteArray->Nat × Nat}{b:Nat}{s:St}{w:World}(h:ScAt w b s)(hp:pre s.rest [95]=true)(hc:s.code=0):q25 D b s w (.slice none 0 0) (w.setCell ⟨b,2,none⟩ (.int .i64 112)):=
 ⟨s.put 112,[],World.ownsRow_nil _ _ _ _,h.put 112,q0H _,q1d.start_bad D s hp hc,by have:=h.sm;rw[List.length_nil];show 0+s.rest.size<=65536;omega,fun _ h=>absurd h List.not_mem_nil⟩
set_option maxHeartbeats 4000000 in
theorem row(K:Nat)(D:ByteArray->Nat × Nat)(hK:Kind K D)(b:Nat)(s:St)(w:World)(h:ScAt w b s):
  Calls Tryz.prog 263 #[.pointer (some ⟨b,0,none⟩),.func (.func K) #[] #[]] w (q1c b (s.row D).1 (s.row D).2 w):=by
 obtain⟨i0,hi,e6,e7,e8⟩:=info_parts q9R;have f8:=hK.go;have HK:=vv hK;have c0:=h.c0;have c2:=h.c2;have f2:=h.fz 2;have hl:=h.lt;have HL:=vv hl;have HP:=vv (qaF s.rest ⟨#[95]⟩ w);rw[show(⟨#[95]⟩:ByteArray).data.toList=[95] from rfl] at HP;have b5:(pre s.rest [95]=true/\s.code=0)\/(pre s.rest [95]=true/\s.code≠0)\/pre s.rest [95]=false:=by
  cases pre s.rest [95] with
  | false=>exact .inr (.inr rfl)
  | true =>
   by_cases hc:s.code=0
   ·exact .inl ⟨rfl,hc⟩
   ·exact .inr (.inl ⟨rfl,hc⟩)
 rcases b5 with ⟨hp,hc⟩|⟨hp,hc⟩|hp
 case' inl =>
  have H0:=vv (q25.start_bad (D:=D) h hp hc);have t0:((s.code:Int)==0)=true:=by rw[hc];rfl
  rw[hp] at HP;clear hK h hp hc;go_enter Tryz.func263,Tryz.ntmps263
  go_wp2_with fail
  refine HP.o.mono ?_;rintro e w1 ⟨rfl,rfl⟩;clear HP;go_wp2;clear c0 c2 f2 hl t0
 case' inr.inl =>
  have H0:=vv (q25.start (D:=D) h (q1d.start_off D s hc));have t0:((s.code:Int)==0)=false:=by rw[beq_eq_false_iff_ne];omega
  rw[hp] at HP;clear hK h hp hc;go_enter Tryz.func263,Tryz.ntmps263
  go_wp2_with fail
  refine HP.o.mono ?_;rintro e w1 ⟨rfl,rfl⟩;clear HP;go_wp2;clear c0 c2 f2 hl t0
 case' inr.inr =>
  have H0:=vv (q25.start (D:=D) h (q1d.start D s hp));rw[hp] at HP;clear hK h hp;go_enter Tryz.func263,Tryz.ntmps263
  go_wp2_with fail
  refine HP.o.mono ?_;rintro e w1 ⟨rfl,rfl⟩;clear HP;go_wp2;clear c0 c2 f2 hl
 all_goals
  go_loopw [5] (fun l wr=>q25 D b s w l wr) (fun _ wr=>ahead wr b)
  case atStart=>exact H0.o
  case round =>
   clear H0;obtain⟨u,L,b6,b0,hg,d6,e9,d7⟩:=hrel;have b1:=vv b6;have b7:=vv b0;have HG:=vv hg;have b8:=vv d6;have c6:=vv d7;have k0:=b0.c0;have k2:=b0.c2;have kf:=b0.fz 2;have kl:=b0.lt;have d8:=vv b0.ahead;have f9:(L.length:Int)<=65536:=by omega
   clear b6 b0 hg d6 d7;by_cases hc:u.code=0
   ·have d0:((u.code:Int)==0)=true:=by rw[hc];rfl
    have c4:=vv hc;have HD:=vv (HK.o.calls u.rest wr);obtain⟨d,n,he⟩:∃d n,D u.rest=(d,n):=⟨_,_,rfl⟩;have a5:=HK.o.small u.rest;rw[he] at a5 HD;obtain⟨b9,a6⟩:=a5;dsimp only at b9 a6;replace HD:Hid (Calls Tryz.prog K #[.string u.rest] wr fun e w'=>e=.returned (.tuple #[.int .i64 (d:Int),.int .i64 (n:Int)])/\Below wr.heap.size wr w'):=HD;have HE:=vv he;clear hc he;by_cases hn:n=0
    ·subst hn;have HS:=vv (b8.o.stop c4.o (by rw[HE.o]));go_wp2_with fail
     refine HD.o.mono ?_;rintro e w1 ⟨rfl,hB⟩;have a1:=vv (q1h b1.o fun g _ hs=>hB.block g hs);have a3:=vv (b7.o.below hB b7.o.lt);have c5:=vv (q02 HG.o (q0j hB _));clear hB k0 k2 kf;go_wp2;go_ret
     rw[HS.o];show q1c b L u w _ _;exact⟨_,rfl,a1.o,a3.o,c5.o,by omega,c6.o⟩
    ·have t1:((n:Int)==0)=false:=by rw[beq_eq_false_iff_ne];omega
     have HN:=vv hn;have g0:L.length+1<=65536:=by omega
     have g1:1<=n:=by omega
     clear hn;go_wp2_with fail
     refine HD.o.mono ?_;rintro e w1 ⟨rfl,hB⟩;have a1:=vv (q1h b1.o fun g _ hs=>hB.block g hs);have a3:=vv (b7.o.below hB b7.o.lt);have c5:=vv (q02 HG.o (q0j hB _));have g2:=hB.size;have g3:=c5.o.size;clear hB k0 k2 kf;go_wp2_with (at_builtin;refine wpList_append_own _ rfl _ _ 85 rfl w.heap.size 5 i0 (.int .u8 0) 1 1 Tryz.underlying85 hi e6 e7 e8 rfl (by decide) _ L.length (u8s L) rfl (a1.o.alloc _) ⟨w1.heap.size,0,none⟩ 1 1 [.int .u8 (d:Int)] rfl rfl (cell_one_new _ _ _) (by simp [Value.oneCell']) (by unfold maxLen;omega) (by omega) (by simp;omega) ?_)
     intro v' w5 a2 a0 _;replace a2:w5.ownsRow w.heap.size 5 1 v' (L++[d]).length (u8s (L++[d])):=by
      rw[q6q,List.length_append];exact a2
     have c1:=vv a2;have c7:=a1.o.lt;have f0:=vv (q0f (q0n c5.o _) a0 (fun k h=>(c7 k h).1));have c8:Hid (ScAt w5 b u):=vv (a3.o.of ((a0.block b (by have:=a3.o.lt;simp;omega) (fun e=>by have:=(c7 b e.symm).1;have:=HL.o;omega)).trans (Below.heap_alloc w1 _ b a3.o.lt)) (Nat.lt_of_lt_of_le (by have:=a3.o.lt;simp;omega) a0.size));have f1:=vv (skip b u n w5 c8.o a6);clear a2 a0 c7;go_wp2_with fail
     refine f1.o.mono ?_;rintro e w6 ⟨rfl,hS,hg⟩;have a8:=vv (q0J c1.o hg HL.o);have d9:=vv (q02 f0.o hg);have a7:=vv hS;have b4:=vv (qaF (u.skip n).rest ⟨#[95]⟩ w6);rw[show(⟨#[95]⟩:ByteArray).data.toList=[95] from rfl] at b4;have m0:=hS.c0;have ml:=hS.lt;have m2:=hS.fz 2;have m3:=hS.c2;have b2:=(fun h=>q9B (r:=(u.skip n).rest) (c:=95) h);have e0:=q0U u n;have c9:Hid (∀d'∈L++[d],d'<16):=vv (fun d' h=>by
      rcases List.mem_append.1 h with h|h
      ·exact c6.o d' h
      ·rw[List.mem_singleton.1 h];exact b9)
     clear hS hg;have b3:Hid ((L++[d]).length+(u.rest.size-n)<=65536):=vv (by rw[List.length_append,List.length_singleton];omega);cases hp:pre (u.skip n).rest [95] with
     | false =>
      rw[hp] at b4;have HA:=vv (b8.o.next c4.o HE.o HN.o a6 hp);have HM:Hid (ahead w6 b<ahead wr b):=vv (by rw[a7.o.ahead,d8.o,q0U];omega);have HI:Hid (q25 D b s w v' w6):=vv ⟨_,_,a8.o,a7.o,d9.o,HA.o,by rw[q0U];exact b3.o,c9.o⟩;clear hp b2 e0;go_wp2_with fail
      refine b4.o.mono ?_;rintro e w7 ⟨rfl,rfl⟩;go_wp2;go_roundw
      case rel=>exact HI.o
      case measure=>exact HM.o
     | true =>
      rw[hp] at b4;have h1:=b2 hp;obtain⟨Y,hY⟩:=yx (drop (u.skip n).rest 1);have f3:(u.skip n).rest.extract 1 (u.skip n).rest.size=Y:=hY.symm;have e1:=vv hY;obtain⟨d2,n2,d1⟩:∃d2 n2,D Y=(d2,n2):=⟨_,_,rfl⟩;have f4:Hid (∀w,Calls Tryz.prog K #[.string Y] w fun e w'=>e=.returned (.tuple #[.int .i64 (d2:Int),.int .i64 (n2:Int)])/\Below w.heap.size w w'):=vv fun w=>by
       have:=HK.o.calls Y w;rw[d1] at this;exact this
      have e2:=vv d1;have e3:=vv hp;obtain⟨R,hR⟩:=yx ((u.skip n).rest);have f5:=vv hR;have g4:(1:Int)<=(R.size:Int):=by rw[hR];omega
      have g5:(R.size:Int)<=65536:=by rw[hR];omega
      rw[<- hR] at m0 f3 b4;clear hp b2 e0 hY d1 hR h1;go_wp2_with fail
      refine b4.o.mono ?_;rintro e w7 ⟨rfl,rfl⟩;go_wp2_with fail
      refine(f4.o _).mono ?_;rintro e w8 ⟨rfl,hB⟩;have a9:=vv (q1h a8.o fun g _ hs=>hB.block g hs);have a4:=vv (a7.o.below hB a7.o.lt);have e4:=vv (q02 d9.o (q0j hB _));have m0:=a4.o.c0;have m2:=a4.o.fz 2;have m3:=a4.o.c2;have ml:=a4.o.lt;clear hB;by_cases hz:n2=0
      ·subst hz;have HS:=vv (b8.o.bad c4.o HE.o HN.o e3.o (by rw[<- e1.o,e2.o]));have c3:Hid ((w8.setCell ⟨b,2,none⟩ (.int .i64 112)).ownsRow w.heap.size 5 1 v' (L++[d]).length (u8s (L++[d]))):=vv (q0J a9.o (q0H _) HL.o);have f6:=vv (q02 e4.o (q0H (.int .i64 112)));have d3:=vv (a4.o.put 112);have d4:Hid ((L++[d]).length<=65536):=vv (by have:=b3.o;omega);go_wp2;go_ret
       rw[HS.o];show q1c b (L++[d]) ((u.skip n).put 112) w _ _;exact⟨_,rfl,c3.o,d3.o,f6.o,d4.o,c9.o⟩
      ·have t2:((n2:Int)==0)=false:=by rw[beq_eq_false_iff_ne];omega
       have e5:1<=(u.skip n).rest.size:=by rw[<- f5.o];omega
       have HA:=vv (b8.o.over c4.o HE.o HN.o a6 e3.o (by rw[<- e1.o,e2.o];exact hz));have d5:=vv (skip b (u.skip n) 1 w8 a4.o e5);have HM:Hid (((u.skip n).skip 1).rest.size<u.rest.size):=vv (by rw[q0U,q0U];omega);have d4:Hid ((L++[d]).length+((u.skip n).skip 1).rest.size<=65536):=vv (by rw[q0U,q0U];have:=b3.o;omega);clear hz e5;go_wp2_with fail
       refine d5.o.mono ?_;rintro e w9 ⟨rfl,hS,hg⟩;have HI:Hid (q25 D b s w v' w9):=vv ⟨_,_,q0J a9.o hg HL.o,hS,q02 e4.o hg,HA.o,d4.o,c9.o⟩;have f7:Hid (ahead w9 b<ahead wr b):=vv (by rw[hS.ahead,d8.o];exact HM.o);clear hS hg;go_wp2;go_roundw
       case rel=>exact HI.o
       case measure=>exact f7.o
   ·have d0:((u.code:Int)==0)=false:=by rw[beq_eq_false_iff_ne];omega
    have HS:=vv (b8.o.off hc);clear hc;go_wp2;go_ret
    rw[HS.o];show q1c b L u w _ _;exact⟨_,rfl,b1.o,b7.o,HG.o,by omega,c6.o⟩
end Go.Proofs.YtcdimmblnbkjjaaGreatDoor.Scn
