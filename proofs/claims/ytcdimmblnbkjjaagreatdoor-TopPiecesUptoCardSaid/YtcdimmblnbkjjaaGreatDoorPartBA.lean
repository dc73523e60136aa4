/- Lemmas. -/
import Derived.Test.YtcdimmblnbkjjaaGreatDoorPartAM
import Derived.Test.YtcdimmblnbkjjaaGreatDoorPartAX
import Derived.Test.YtcdimmblnbkjjaaGreatDoorPartAH
import Derived.Test.YtcdimmblnbkjjaaGreatDoorPartAN
set_option linter.all false
namespace Go.Proofs.YtcdimmblnbkjjaaGreatDoor
open Go Go.RowKit
def u8s(U:List Nat):List Value:=U.map fun(x:Nat)=>Value.int .u8 (x:Int)
theorem q9o(U:List Nat){i:Nat}(h:i<U.length):(u8s U)[i]?=some (.int .u8 ((nth U i:Nat):Int)):=by
 unfold u8s nth;rw[List.getElem?_map,List.getD_eq_getElem?_getD,List.getElem?_eq_getElem h]
 rfl
theorem q6q(U V:List Nat):u8s (U++V)=u8s U++u8s V:=by simp [u8s]
theorem q6p(U:List Nat):∀v∈u8s U,v.oneCell'=true:=by
 intro v hv;obtain⟨x,_,rfl⟩:=List.mem_map.1 hv
 rfl
theorem q5p{w:World}{base:Nat}{e:TypeId}{g n cap:Nat}{U:List Nat}(h:w.ownsRow base e 1 (.slice (some ⟨g,0,none⟩) n cap) n (u8s U))(i x:Nat):
  (w.setCell ⟨g,i,none⟩ (.int .u8 (x:Int))).ownsRow base e 1 (.slice (some ⟨g,0,none⟩) n cap) n (u8s (U.set i x)):=by
 obtain⟨h1,h2⟩:=h;rcases h2 with ⟨h,_⟩|⟨g',cap',cur,hv,hb,hg,hc,hm,hs,ht⟩
 ·cases h
 ·cases hv
  refine⟨by simpa [u8s] using h1,.inr ⟨g,cap,cur.setIfInBounds i (.int .u8 (x:Int)),rfl,hb,?_,hc,hm,by simpa using hs,?_⟩⟩
  ·simp [World.setCell,Array.getElem?_modify,hg]
  ·have e:u8s (U.set i x)=(u8s U).set i (.int .u8 (x:Int)):=by unfold u8s;rw[List.map_set]
   rw[e,<- ht];rw[Array.toList_setIfInBounds,List.take_set]
theorem q37{w:World}{base:Nat}{e:TypeId}{g n cap:Nat}{U:List Nat}(h:w.ownsRow base e 1 (.slice (some ⟨g,0,none⟩) n cap) n (u8s U)){i:Nat}(hi:i<n):
  w.cell? ⟨g,i,none⟩=some (.int .u8 ((nth U i:Nat):Int))/\w.frozen? ⟨g,i,none⟩=false/\base<=g/\g<w.heap.size:=by
 have a0:U.length=n:=by have:=h.1;simpa [u8s] using this
 rcases h.2 with ⟨h,_⟩|⟨g',cap',cur,hv,hb,hg,hc,hm,hs,ht⟩
 ·cases h
 ·cases hv
  refine⟨?_,by simp [World.frozen?,hg],hb,(Array.getElem?_eq_some_iff.1 hg).1⟩;have e1:=q9o U (i:=i) (by omega);rw[<- ht,Nat.mul_one,List.getElem?_take,if_pos hi] at e1;simp only[World.cell?,hg];rw[<- e1];simp
theorem q83{w:World}{base:Nat}{e:TypeId}{v:Value}{n:Nat}{U:List Nat}(h:w.ownsRow base e 1 v n (u8s U)):U.length=n:=by have:=h.1;simpa [u8s] using this
theorem q2y{w:World}{base:Nat}{e:TypeId}{v:Value}{n:Nat}{U:List Nat}(h:w.ownsRow base e 1 v n (u8s U))(hn:0<n):∃g cap,v=.slice (some ⟨g,0,none⟩) n cap/\base<=g:=by
 rcases h.2 with ⟨_,h0⟩|⟨g,cap,cur,hv,hb,_⟩
 ·omega
 ·exact⟨g,cap,hv,hb⟩
theorem q18{w:World}{base:Nat}{e:TypeId}{v:Value}{n:Nat}{U:List Nat}(h:w.ownsRow base e 1 v n (u8s U)):∃A cap,v=.slice A n cap:=by
 rcases h.2 with ⟨h2,rfl⟩|⟨g,cap,cur,hv,_⟩
 ·exact⟨none,0,h2⟩
 ·exact⟨_,_,hv⟩
theorem q1h{w w':World}{base:Nat}{e:TypeId}{v:Value}{n:Nat}{l:List Value}(h:w.ownsRow base e 1 v n l)(hb:∀g,base<=g->g<w.heap.size->w'.heap[g]?=w.heap[g]?):w'.ownsRow base e 1 v n l:=by
 refine⟨h.1,?_⟩;rcases h.2 with h2|⟨g,cap,cur,hv,a0,hg,hc,hm,hs,ht⟩
 ·exact .inl h2
 ·exact .inr ⟨g,cap,cur,hv,a0,(hb g a0 (Array.getElem?_eq_some_iff.1 hg).1).trans hg,hc,hm,hs,ht⟩
theorem q0J{w w':World}{base b:Nat}{e:TypeId}{v:Value}{n:Nat}{l:List Value}(h:w.ownsRow base e 1 v n l)(hb:w.grownBy w' (some b))(hlt:b<base):w'.ownsRow base e 1 v n l:=
 q1h h fun g hg hs=>hb.block g hs (fun e=>by injection e with e;omega)
structure ScAt(w:World)(b:Nat)(s:Scn.St):Prop where
 c0:w.cell? ⟨b,0,none⟩=some (.string s.rest)
 c1:w.cell? ⟨b,1,none⟩=some (.int .i64 (s.pos:Int))
 c2:w.cell? ⟨b,2,none⟩=some (.int .i64 (s.code:Int))
 fz:∀j,w.frozen? ⟨b,j,none⟩=false
 lt:b<w.heap.size
 sm:s.rest.size+s.pos<=65536
theorem ScAt.of{w w':World}{b:Nat}{s:Scn.St}(h:ScAt w b s)(hb:w'.heap[b]?=w.heap[b]?)(hs:b<w'.heap.size):ScAt w' b s:=
 ⟨(World.cell?_of_block (a:=⟨b,0,none⟩) hb).trans h.c0,(World.cell?_of_block (a:=⟨b,1,none⟩) hb).trans h.c1,(World.cell?_of_block (a:=⟨b,2,none⟩) hb).trans h.c2,fun j=>(q0R (p:=⟨b,j,none⟩) hb).trans (h.fz j),hs,h.sm⟩
theorem ScAt.below{w w':World}{b B:Nat}{s:Scn.St}(h:ScAt w b s)(hb:Below B w w')(hB:b<B):ScAt w' b s:=h.of (hb.block b hB) (Nat.lt_of_lt_of_le h.lt hb.size)
theorem ScAt.grown{w w':World}{b:Nat}{s:Scn.St}(h:ScAt w b s){row:Option Nat}(hb:w.grownBy w' row)(hr:∀k,row=some k->k≠b):ScAt w' b s:=h.of (hb.block b h.lt (fun e=>hr b e.symm rfl)) (Nat.lt_of_lt_of_le h.lt hb.size)
theorem ScAt.put{w:World}{b:Nat}{s:Scn.St}(h:ScAt w b s)(c:Nat):ScAt (w.setCell ⟨b,2,none⟩ (.int .i64 (c:Int))) b (s.put c):=
 ⟨(q0i (by simp)).trans h.c0,(q0i (by simp)).trans h.c1,q0u h.c2,fun j=>(World.frozen?_setCell _ _ _ _).trans (h.fz j),by simpa [World.setCell] using h.lt,h.sm⟩
theorem ScAt.drew{w:World}{b:Nat}{s:Scn.St}(h:ScAt w b s):ScAt w.drew b s:=⟨h.c0,h.c1,h.c2,h.fz,h.lt,h.sm⟩
theorem ScAt.made(w:World)(r:ByteArray)(t:TypeId)(hr:r.size<=65536):ScAt (w.alloc (.cells #[.string r,.int .i64 0,.int .i64 0] t)) w.heap.size ⟨r,0,0⟩:=by
 refine⟨?_,?_,?_,fun j=>?_,by simp,hr⟩
 ·simp only[World.cell?,heap_alloc_new];rfl
 ·simp only[World.cell?,heap_alloc_new];rfl
 ·simp only[World.cell?,heap_alloc_new];rfl
 ·simp only[World.frozen?,heap_alloc_new];rw[Bool.and_eq_false_iff]
  right;simp
theorem ScAt.skip{w:World}{b:Nat}{s:Scn.St}(h:ScAt w b s){n:Nat}(hn:n<=s.rest.size):ScAt ((w.setCell ⟨b,0,none⟩ (.string (Scn.drop s.rest n))).setCell ⟨b,1,none⟩ (.int .i64 ((s.pos:Int)+(n:Int)))) b (s.skip n):=by
 refine⟨(q0i (by simp)).trans (q0u h.c0),q0u ((q0i (by simp)).trans h.c1),(q0i (by simp)).trans ((q0i (by simp)).trans h.c2),fun j=>(World.frozen?_setCell _ _ _ _).trans ((World.frozen?_setCell _ _ _ _).trans (h.fz j)),by simpa [World.setCell] using h.lt,?_⟩;have h1:=h.sm;show(Scn.drop s.rest n).size+(s.pos+n)<=65536;rw[Scn.drop_size];omega
def ScP(b:Nat)(s:Scn.St)(v:Value)(w:World)(e:Ending)(w':World):Prop:=e=.returned v/\ScAt w' b s/\w.grownBy w' (some b)
structure Bg(w:World):Prop where
 std:Std w
 u8:Lib.Utf8Tabs 2 3 w
 es:∃te pe,w.cell? ⟨5,0,none⟩=some (.iface te pe)
 er:∃te pe,w.cell? ⟨6,0,none⟩=some (.iface te pe)
theorem cell_lt{w:World}{a:Addr}{v:Value}(h:w.cell? a=some v):a.block<w.heap.size:=by
 rcases Nat.lt_or_ge a.block w.heap.size with h1|h1
 ·exact h1
 ·simp [World.cell?,Array.getElem?_eq_none h1] at h
theorem Bg.keep{w w':World}(h:Bg w)(hs:w.heap.size<=w'.heap.size)(hc:∀g,(∃n:Int,w.cell? ⟨g,0,none⟩=some (.int .u8 n))\/(∃te pe,w.cell? ⟨g,0,none⟩=some (.iface te pe))->w'.heap[g]?=w.heap[g]?):Bg w':=by
 obtain⟨a,b,c,d⟩:=h;have k0:=hc 4 (.inl ⟨_,a.1 0 (by decide)⟩);have k1:=hc 2 (.inl ⟨_,b.1 0 (by decide)⟩);have k2:=hc 3 (.inl ⟨_,(b.2 0 (by decide)).1⟩);have k3:=hc 5 (.inr c);have k4:=hc 6 (.inr d);refine⟨⟨fun j hj=>?_,Nat.lt_of_lt_of_le a.2 hs⟩,⟨fun j hj=>?_,fun j hj=>⟨?_,?_⟩⟩,?_,?_⟩
 ·exact(World.cell?_of_block (a:=⟨4,j,none⟩) k0).trans (a.1 j hj)
 ·exact(World.cell?_of_block (a:=⟨2,j,none⟩) k1).trans (b.1 j hj)
 ·exact(World.cell?_of_block (a:=⟨3,2*j,none⟩) k2).trans (b.2 j hj).1
 ·exact(World.cell?_of_block (a:=⟨3,2*j+1,none⟩) k2).trans (b.2 j hj).2
 ·obtain⟨te,pe,c⟩:=c;exact⟨te,pe,(World.cell?_of_block (a:=⟨5,0,none⟩) k3).trans c⟩
 ·obtain⟨te,pe,d⟩:=d;exact⟨te,pe,(World.cell?_of_block (a:=⟨6,0,none⟩) k4).trans d⟩
theorem Bg.below{w w':World}(h:Bg w)(hb:Below w.heap.size w w'):Bg w':=
 h.keep hb.size fun g hg=>hb.block g (by rcases hg with ⟨n,e⟩|⟨te,pe,e⟩<;>exact cell_lt e)
theorem Bg.grown{w w':World}{b:Nat}{s:Scn.St}(h:Bg w)(hb:w.grownBy w' (some b))(hs:ScAt w b s):Bg w':=
 h.keep hb.size fun g hg=>hb.block g (by rcases hg with ⟨n,e⟩|⟨te,pe,e⟩<;>exact cell_lt e) (fun e=>by
  cases e
  have:=hs.c0;rcases hg with ⟨n,e⟩|⟨te,pe,e⟩<;>rw[e] at this<;>cases this)
end Go.Proofs.YtcdimmblnbkjjaaGreatDoor
namespace Go.Proofs.YtcdimmblnbkjjaaGreatDoor.Scn
open Go Go.RowKit
theorem skip(b:Nat)(s:St)(n:Nat)(w:World)(h:ScAt w b s)(hn:n<=s.rest.size):
  Calls Tryz.prog 225 #[.pointer (some ⟨b,0,none⟩),.int .i64 (n:Int)] w (ScP b (s.skip n) (.tuple #[]) w):=by
 have a0:=h.sm;have c0:=h.c0;have c1:=h.c1;have f0:=h.fz 0;have f1:=h.fz 1;have hl:=h.lt;have H:=vv (h.skip hn);have hp:(s.pos:Int)+(n:Int)<=65536:=by omega
 have a1:(n:Int)<=(s.rest.size:Int):=by omega
 have HG:=vv (q07 (q07 (World.grownBy.refl w (some b)) (p:=⟨b,0,none⟩) (.inl rfl) (.string (drop s.rest n))) (p:=⟨b,1,none⟩) (.inl rfl) (.int .i64 ((s.pos:Int)+(n:Int))));clear h;go_enter Tryz.func225,Tryz.ntmps225
 go_wp2;go_region
 go_end0
 exact⟨rfl,H.o.drew,q4o HG.o⟩
theorem qaF(s p:ByteArray)(w:World):Calls Tryz.prog 174 #[.string s,.string p] w fun e w'=>e=.returned (.bool (pre s p.data.toList))/\w=w':=(Tryz.strings_HasPrefix s p w).mono fun _ _ h=>⟨h.1,h.2.symm⟩
theorem q9U{s:St}(p:List UInt8)(h:s.code≠0):s.has p=false:=by
 unfold St.has;rw[show(s.code==0)=false by simpa using h];rfl
theorem qb3{s:St}(p:List UInt8)(h:s.code=0):s.has p=pre s.rest p:=by
 unfold St.has;rw[show(s.code==0)=true by simpa using h];rfl
theorem q8Y{r:ByteArray}{p:ByteArray}(h:pre r p.data.toList=true):p.size<=r.size:=by
 have:=(List.isPrefixOf_iff_prefix.1 (show p.data.toList.isPrefixOf r.data.toList=true from h)).length_le
 rwa [q0D,q0D] at this
def St.past(s:St)(p:ByteArray):St:=if s.has p.data.toList then s.skip p.size else s
theorem has(b:Nat)(s:St)(p:ByteArray)(w:World)(h:ScAt w b s):
  Calls Tryz.prog 221 #[.pointer (some ⟨b,0,none⟩),.string p] w (ScP b (s.past p) (.bool (s.has p.data.toList)) w):=by
 have c0:=h.c0;have c2:=h.c2;have hl:=h.lt;have HH:=vv h;by_cases hc:s.code=0
 ·have d0:((s.code:Int) != 0)=false:=by rw[hc];rfl
  have HE:=vv (qb3 p.data.toList hc);have HP:=vv (qaF s.rest p w);cases hb:pre s.rest p.data.toList with
  | false =>
   have HB:Hid (s.has p.data.toList=false):=vv (HE.o.trans hb);have a0:=vv hb;clear h hc hb;go_enter Tryz.func221,Tryz.ntmps221
   go_wp2_with (go_at_call 174;refine HP.o.mono ?_;rintro e w' ⟨rfl,rfl⟩;rw[a0.o])
   go_ret
   exact⟨by rw[HB.o];rfl,by unfold St.past;rw[HB.o];exact HH.o,World.grownBy.refl _ _⟩
  | true =>
   have HB:Hid (s.has p.data.toList=true):=vv (HE.o.trans hb);have a0:=vv hb;have HS:=vv (skip b s p.size w h (q8Y hb));clear h hc hb;go_enter Tryz.func221,Tryz.ntmps221
   go_wp2_with (first
    | (go_at_call 174;refine HP.o.mono ?_;rintro e w' ⟨rfl,rfl⟩;rw[a0.o])
    | (go_at_call 225;refine HS.o.mono ?_;rintro e w' ⟨rfl,hS,hG⟩))
   go_ret
   exact⟨by rw[HB.o];rfl,by unfold St.past;rw[HB.o];exact hS,hG⟩
 ·have d0:((s.code:Int) != 0)=true:=by rw[bne_iff_ne];omega
  have HB:=vv (q9U p.data.toList hc);clear h hc;go_enter Tryz.func221,Tryz.ntmps221
  go_wp2;go_ret
  exact⟨by rw[HB.o];rfl,by unfold St.past;rw[HB.o];exact HH.o,World.grownBy.refl _ _⟩
theorem q0H{w:World}{b:Nat}(v:Value):w.grownBy (w.setCell ⟨b,2,none⟩ v) (some b):=q07 (World.grownBy.refl w (some b)) (.inl rfl) v
theorem fail(b:Nat)(s:St)(c:Nat)(w:World)(h:ScAt w b s)(hg:Bg w):
  Calls Tryz.prog 131 #[.pointer (some ⟨b,0,none⟩),.int .i64 (c:Int)] w (ScP b (s.fail c) (.tuple #[]) w):=by
 have c0:=h.c0;have c2:=h.c2;have f2:=h.fz 2;have hl:=h.lt;by_cases hc:s.code=0
 ·have d0:((s.code:Int) != 0)=false:=by rw[hc];rfl
  have h1:=h.put c;have g1:Bg (w.setCell ⟨b,2,none⟩ (.int .i64 (c:Int))):=hg.grown (q0H _) h;have HD:=vv (Tryz.utf8_DecodeRuneInString s.rest _ g1.u8);have k0:=h1.c0;have k2:=h1.c2;have kf:=h1.fz 2;have kl:=h1.lt;have HF:Hid (s.fail c=if(qa6 s.rest).1=65533/\(qa6 s.rest).2=1 then s.put 114 else s.put c):=vv (by unfold St.fail;rw[if_pos hc]);obtain⟨R,hR⟩:=yx ((qa6 s.rest).1);obtain⟨K,hK⟩:=yx ((qa6 s.rest).2);rw[show Lib.decodeGo s.rest=qa6 s.rest from rfl,<- hR,<- hK] at HD;rw[<- hR,<- hK] at HF;obtain⟨w1,a0⟩:=yx (w.setCell ⟨b,2,none⟩ (.int .i64 (c:Int)));have HW:=vv a0;have HG:=vv (show w.grownBy w1 (some b) by rw[a0];exact q0H _);rw[<- a0] at HD k0 k2 kf kl h1;have H1:=vv h1;clear hR hK a0 h1 h hg g1 hc;go_enter Tryz.func131,Tryz.ntmps131
  go_wp2_with (first|rw[<- HW.o]|fail)
  refine HD.o.mono ?_;rintro e w2 ⟨rfl,hB⟩;have H2:=vv (H1.o.below hB H1.o.lt);have a1:=vv (q02 HG.o (q0j hB (some b)));have j2:=H2.o.c2;have jf:=H2.o.fz 2;have jl:=H2.o.lt;clear hB k0 k2 kf kl c0 c2 f2 hl d0;by_cases hr:R=65533
  ·have t1:((R:Int)==65533)=true:=by rw[hr];rfl
   by_cases hk:K=1
   ·have t2:((K:Int)==1)=true:=by rw[hk];rfl
    have HE:Hid (s.fail c=s.put 114):=vv (by rw[HF.o,if_pos ⟨hr,hk⟩]);clear hr hk;go_wp2;go_end0
    exact⟨rfl,by rw[HE.o];exact H2.o.put 114,q02 a1.o (q0H _)⟩
   ·have t2:((K:Int)==1)=false:=by rw[beq_eq_false_iff_ne];omega
    have HE:Hid (s.fail c=s.put c):=vv (by rw[HF.o,if_neg fun e=>hk e.2]);clear hr hk;go_wp2;go_end0
    exact⟨rfl,by rw[HE.o];exact H2.o,a1.o⟩
  ·have t1:((R:Int)==65533)=false:=by rw[beq_eq_false_iff_ne];omega
   have HE:Hid (s.fail c=s.put c):=vv (by rw[HF.o,if_neg fun e=>hr e.1]);clear hr;go_wp2;go_end0
   exact⟨rfl,by rw[HE.o];exact H2.o,a1.o⟩
 ·have d0:((s.code:Int) != 0)=true:=by rw[bne_iff_ne];omega
  have HE:Hid (s.fail c=s):=vv (by unfold St.fail;rw[if_neg hc]);have HH:=vv h;clear h hc hg;go_enter Tryz.func131,Tryz.ntmps131
  go_wp2;refine bodyPost_ret (results_none rfl _ _ _) rfl ?_;exact⟨rfl,by rw[HE.o];exact HH.o,World.grownBy.refl _ _⟩
theorem q76{c:Nat}(h1:65<=c)(h2:c<=90):q3C c=c+32:=by unfold q3C;rw[if_pos ⟨h1,h2⟩]
theorem q60{c:Nat}(h:¬(65<=c/\c<=90)):q3C c=c:=by unfold q3C;rw[if_neg h]
theorem q2p:∀(l q:List UInt8),q59 l q=true↔q.length<=l.length/\∀j,j<q.length->q3C (l.getD j 0).toNat=(q.getD j 0).toNat
 | l,[]=>by simp [q59]
 | [],p::q=>by simp [q59]
 | c::l,p::q=>by
  simp only[q59,Bool.and_eq_true,beq_iff_eq];rw[q2p l q]
  constructor
  ·rintro⟨h1,h2,h3⟩;refine⟨by simpa using h2,fun j hj=>?_⟩;cases j with
   | zero=>exact h1
   | succ j=>exact h3 j (by simpa using hj)
  ·rintro⟨h2,h3⟩;exact⟨h3 0 (by simp),by simpa using h2,fun j hj=>h3 (j+1) (by simpa using hj)⟩
theorem q7e(t:ByteArray)(j:Nat)(h:j<t.size):t.data.toList.getD j 0=t[j]:=by
 rw[List.getD_eq_getElem?_getD,List.getElem?_eq_getElem (by rw[q0D];exact h)];rfl
def St.over(s:St)(p:ByteArray):St:=if s.fold p.data.toList then s.skip p.size else s
theorem fold(b:Nat)(s:St)(p:ByteArray)(w:World)(h:ScAt w b s)(hp:p.size<=65536):
  Calls Tryz.prog 176 #[.pointer (some ⟨b,0,none⟩),.string p] w (ScP b (s.over p) (.bool (s.fold p.data.toList)) w):=by
 have c0:=h.c0;have c2:=h.c2;have hl:=h.lt;have HH:=vv h;have a2:Hid (s.fold p.data.toList=false->ScP b (s.over p) (.bool (s.fold p.data.toList)) w (.returned (.bool false)) w):=vv fun e=>⟨by rw[e],by unfold St.over;rw[e];exact h,World.grownBy.refl _ _⟩
 by_cases hc:s.code=0
 ·have d0:((s.code:Int) != 0)=false:=by rw[hc];rfl
  have hF:s.fold p.data.toList=q59 s.rest.data.toList p.data.toList:=by unfold St.fold;rw[hc];rfl
  by_cases hs:s.rest.size<p.size
  ·have HE:Hid (s.fold p.data.toList=false):=vv (by
    rw[hF,Bool.eq_false_iff];intro e;have:=((q2p _ _).1 e).1;rw[q0D,q0D] at this;omega)
   have d1:decide ((s.rest.size:Int)<(p.size:Int))=true:=decide_eq_true (by omega);clear h hc hF d1;go_enter Tryz.func176,Tryz.ntmps176
   go_wp2;go_ret
   exact a2.o HE.o
  have HF:=vv hF;have HS:=vv (skip b s p.size w h (by omega));have d1:decide ((s.rest.size:Int)<(p.size:Int))=false:=decide_eq_false (by omega);have a8:=h.sm;have a9:(s.rest.size:Int)<=65536:=by omega
  have a5:p.size<=s.rest.size:=by omega
  clear h hc hF hs;go_enter Tryz.func176,Tryz.ntmps176
  go_wp2;go_loop [24] (fun t=>∃k:Nat,k<=p.size/\t=.int .i64 (k:Int)/\∀j,j<k->q3C (s.rest.data.toList.getD j 0).toNat=(p.data.toList.getD j 0).toNat) (fun t=>p.size-(intOf t).toNat)
  case atStart=>exact⟨0,Nat.zero_le _,rfl,fun j hj=>absurd hj (by omega)⟩
  case round =>
   obtain⟨k,hk,rfl,a3⟩:=hrel;have HA:=vv a3;clear a3;by_cases hks:k<p.size
   ·have a6:k<s.rest.size:=by omega
    have a7:(s.rest[k]).toNat<256:=UInt8.toNat_lt _;have ecl:=q7e s.rest k a6;have epl:=q7e p k hks;have a0:Hid (q3C (s.rest[k]).toNat=(p[k]).toNat->∀j,j<k+1->q3C (s.rest.data.toList.getD j 0).toNat=(p.data.toList.getD j 0).toNat):=vv (fun e j hj=>by
     rcases(by omega:j<k\/j=k) with h1|rfl
     ·exact HA.o j h1
     ·rw[ecl,epl];exact e)
    have a1:Hid (q3C (s.rest[k]).toNat≠(p[k]).toNat->s.fold p.data.toList=false):=vv (fun e=>by
     rw[HF.o,Bool.eq_false_iff];intro e1;have:=((q2p _ _).1 e1).2 k (by rw[q0D];exact hks);rw[ecl,epl] at this;exact e this)
    clear ecl epl;obtain⟨x,hx⟩:∃x,(s.rest[k]).toNat=x:=⟨_,rfl⟩;obtain⟨y,hy⟩:∃y,(p[k]).toNat=y:=⟨_,rfl⟩;rw[hx] at a7 a0 a1;rw[hy] at a0 a1;by_cases hup:65<=x/\x<=90
    ·rw[q76 hup.1 hup.2] at a0 a1;have u1:decide ((65:Int)<=(x:Int))=true:=decide_eq_true (by omega);have u2:decide ((x:Int)<=90)=true:=decide_eq_true (by omega);have u3:((x:Int)+32)%256=((x+32:Nat):Int):=by omega
     by_cases he:x+32=y
     ·have t1:((x:Int)+32 != (y:Int))=false:=by rw[bne_eq_false_iff_eq];omega
      have HE:=vv he;clear he hup;go_wp2;go_round
      case rel=>exact⟨k+1,by omega,by go_num,a0.o HE.o⟩
      case measure=>simp [intOf];omega
     ·have t1:((x:Int)+32 != (y:Int))=true:=by rw[bne_iff_ne];omega
      have HE:=vv he;clear he hup;go_wp2;go_ret
      exact a2.o (a1.o HE.o)
    ·rw[q60 hup] at a0 a1;have u3:(decide ((65:Int)<=(x:Int)) && decide ((x:Int)<=90))=false:=by
      rcases(by omega:x<65\/90<x) with h|h
      ·rw[decide_eq_false (p:=(65:Int)<=(x:Int)) (by omega)];rfl
      ·rw[decide_eq_false (p:=(x:Int)<=90) (by omega),Bool.and_false]
     by_cases he:x=y
     ·have t1:((x:Int) != (y:Int))=false:=by rw[bne_eq_false_iff_eq];omega
      have HE:=vv he;rcases(by omega:x<65\/(65<=x/\90<x)) with h|⟨h,h'⟩
      ·have u1:decide ((65:Int)<=(x:Int))=false:=decide_eq_false (by omega);clear he hup u3 h;go_wp2;go_round
       case rel=>exact⟨k+1,by omega,by go_num,a0.o HE.o⟩
       case measure=>simp [intOf];omega
      ·have u1:decide ((65:Int)<=(x:Int))=true:=decide_eq_true (by omega);have u2:decide ((x:Int)<=90)=false:=decide_eq_false (by omega);clear he hup u3 h h';go_wp2;go_round
       case rel=>exact⟨k+1,by omega,by go_num,a0.o HE.o⟩
       case measure=>simp [intOf];omega
     ·have t1:((x:Int) != (y:Int))=true:=by rw[bne_iff_ne];omega
      have HE:=vv he;rcases(by omega:x<65\/(65<=x/\90<x)) with h|⟨h,h'⟩
      ·have u1:decide ((65:Int)<=(x:Int))=false:=decide_eq_false (by omega);clear he hup u3 h;go_wp2;go_ret
       exact a2.o (a1.o HE.o)
      ·have u1:decide ((65:Int)<=(x:Int))=true:=decide_eq_true (by omega);have u2:decide ((x:Int)<=90)=false:=decide_eq_false (by omega);clear he hup u3 h h';go_wp2;go_ret
       exact a2.o (a1.o HE.o)
   ·have a4:k=p.size:=by omega
    subst a4;have HT:Hid (s.fold p.data.toList=true):=vv (by
     rw[HF.o,q2p,q0D,q0D];exact⟨a5,HA.o⟩)
    clear hk hks;go_wp2_with fail
    refine HS.o.mono ?_;rintro e w' ⟨rfl,hS,hG⟩;go_wp2;go_ret
    exact⟨by rw[HT.o];rfl,by unfold St.over;rw[HT.o];exact hS,hG⟩
 ·have d0:((s.code:Int) != 0)=true:=by rw[bne_iff_ne];omega
  have HE:Hid (s.fold p.data.toList=false):=vv (by
   unfold St.fold;rw[show(s.code==0)=false by simpa using hc];rfl)
  clear h hc;go_enter Tryz.func176,Tryz.ntmps176
  go_wp2;go_ret
  exact a2.o HE.o
end Go.Proofs.YtcdimmblnbkjjaaGreatDoor.Scn
