/- Lemmas. -/
import Derived.Test.YtcdimmblnbkjjaaGreatDoorPartBB
import Derived.Laws.AppendOwnNone
import Derived.Shelf.Abstract
set_option linter.all false
set_option maxHeartbeats 1000000
namespace Go.Proofs.YtcdimmblnbkjjaaGreatDoor
open Go Go.RowKit
theorem q1f{P:Program}{w:World}{ops:Array Oper}{rest:List Oper}{o:Oper}{a:Act}{Q:Exit->Act->World->Prop}(hgd:o.guard=none)(s x:Operand)(t:TypeId)
  (ho:o.op=.call {callee:=.builtin .append,args:=#[s,x],argTypes:=#[t,t]})
  (base base2:Nat) (e:TypeId) (i:TypeInfo) (z:Value) (bytes:Nat) (ht:P.underlying t=some (.slice e)) (hi:P.info? e=some i) (hz:i.zero=some z)
  (hsize:i.size=1) (hby:i.bytes=bytes) (hzs:z.cells.size=1)
  (v:Value) (n:Nat) (xs:List Value) (hs:a.eval s=v) (hown:w.ownsRow base e 1 v n xs)
  (v2:Value) (m:Nat) (news:List Value) (hx:a.eval x=v2) (hown2:w.ownsRow base2 e 1 v2 m news) (h1:∀u∈news,u.oneCell'=true)
  (h63:n+m<=maxLen) (hbytes:(n+m)*bytes<=140737488355328) (hbase:base<=w.heap.size)
  (h:∀v' w',w'.ownsRow base e 1 v' (n+m) (xs++news)->w.grownBy w' v.ownBlock->wpList P ops Q rest (a.put o.dst v') w'):wpList P ops Q (o::rest) a w:=by
 obtain⟨hl,hc⟩:=hown2;rcases hc with ⟨rfl,rfl⟩|⟨g,cap,cur,rfl,hb,hg,hc,hm,a2,a0⟩
 ·have hn:news=[]:=List.eq_nil_of_length_eq_zero (by simpa using hl);subst hn;exact wpList_append_own_none hgd s x t ho base e i 1 ht hi _ n xs hs hown hx (h _ _ (by simpa using hown) (World.grownBy.refl _ _))
 ·refine wpList_append_own w hgd s x t ho base e i z 1 bytes ht hi hz hsize hby hzs (by decide) v n xs hs hown ⟨g,0,none⟩ m cap news hx hl (fun j u hj=>?_) h1 h63 hbytes hbase (fun v' w' h2 h3 _=>h v' w' h2 h3);have a1:j<m*1:=by
   have:=(List.getElem?_eq_some_iff.1 hj).1;omega
  rw[<- a0,List.getElem?_take,if_pos a1] at hj;have ea:Addr.add ⟨g,0,none⟩ j=⟨g,j,none⟩:=by cases j with|zero=>rfl|succ j=>simp [Addr.add]
  rw[ea,<- hj];simp only[World.cell?,hg];simp
end Go.Proofs.YtcdimmblnbkjjaaGreatDoor
namespace Go.Proofs.YtcdimmblnbkjjaaGreatDoor.Scn
open Go Go.RowKit
theorem q5v:Kind 175 ten:=⟨enters_of Tryz.func175 (by kernel_rfl) rfl,qbL,fun t=>⟨Nat.lt_trans (q4i t).1 (by decide),(q4i t).2⟩⟩
theorem q4v:Kind 227 q14:=⟨enters_of Tryz.func227 (by kernel_rfl) rfl,q7Z,q3U⟩
theorem must(K:Nat)(D:ByteArray->Nat × Nat)(hK:Kind K D)(b:Nat)(s:St)(w:World)(h:ScAt w b s)(hg:Bg w):
  Calls Tryz.prog 264 #[.pointer (some ⟨b,0,none⟩),.func (.func K) #[] #[]] w (q1c b (s.must D).1 (s.must D).2 w):=by
 have HR:=vv (row K D hK b s w h);have HH:=vv h;have HG:=vv hg;obtain⟨L,u,he⟩:∃L u,s.row D=(L,u):=⟨_,_,rfl⟩;have HE:=vv he;rw[he] at HR;replace HR:Hid (Calls Tryz.prog 263 #[.pointer (some ⟨b,0,none⟩),.func (.func K) #[] #[]] w (q1c b L u w)):=HR;clear h hg he;by_cases hL:L.length=0
 ·have a5:L=[]:=List.eq_nil_of_length_eq_zero hL;have HM:Hid (s.must D=([],u.fail 111)):=vv (by unfold St.must;rw[HE.o];dsimp only;rw[a5,if_pos rfl]);subst a5;clear hL;go_enter Tryz.func264,Tryz.ntmps264
  go_wp2_with fail
  refine HR.o.mono ?_;rintro e w1 ⟨v,rfl,a0,a2,a1,_,_⟩;have a4:=vv a0;have a8:=vv a1;have HF:=vv (fail b u 111 w1 a2 (HG.o.grown a1 HH.o));obtain⟨A,cap,rfl⟩:=q18 a0;have a9:=vv HH.o.lt;clear a0 a2 a1;go_wp2_with fail
  refine HF.o.mono ?_;rintro e w2 ⟨rfl,hS,hG⟩;have HS:=vv hS;have b0:=vv (q02 a8.o hG);have a3:=vv (q0J a4.o hG a9.o);clear hS hG;go_wp2;go_ret
  rw[HM.o];show q1c b [] (u.fail 111) w _ _;exact⟨_,rfl,a3.o,HS.o,b0.o,Nat.zero_le _,fun _ h=>absurd h List.not_mem_nil⟩
 ·have HM:Hid (s.must D=(L,u)):=vv (by unfold St.must;rw[HE.o];dsimp only;rw[if_neg fun e=>hL (by rw[e];rfl)]);have t1:((L.length:Int)==0)=false:=by rw[beq_eq_false_iff_ne];omega
  clear hL;go_enter Tryz.func264,Tryz.ntmps264
  go_wp2_with fail
  refine HR.o.mono ?_;rintro e w1 ⟨v,rfl,a0,a2,a1,a6,a7⟩;have HP:Hid (q1c b L u w (.returned v) w1):=vv ⟨v,rfl,a0,a2,a1,a6,a7⟩;obtain⟨A,cap,rfl⟩:=q18 a0;clear a0 a2 a1 a6 a7;go_wp2;go_ret
  rw[HM.o];exact HP.o
def q1A(b:Nat)(L:List Nat)(k:Nat)(u:St)(w:World)(e:Ending)(w':World):Prop:=
 ∃v,e=.returned (.tuple #[v,.int .i64 (k:Int)])/\w'.ownsRow w.heap.size 5 1 v L.length (u8s L)/\ScAt w' b u/\w.grownBy w' (some b)/\L.length<=131072/\k<=65536/\∀d∈L,d<16
theorem mantissa(K:Nat)(D:ByteArray->Nat × Nat)(hK:Kind K D)(b:Nat)(s:St)(w:World)(h:ScAt w b s)(hg:Bg w):
  Calls Tryz.prog 226 #[.pointer (some ⟨b,0,none⟩),.func (.func K) #[] #[]] w (q1A b (s.mantissa D).1 (s.mantissa D).2.1 (s.mantissa D).2.2 w):=by
 obtain⟨i0,hi,d0,d1,d2⟩:=info_parts q9R;have HR:=vv (row K D hK b s w h);have HH:=vv h;have HG:=vv hg;have HK:=vv hK;obtain⟨L,u,he⟩:∃L u,s.row D=(L,u):=⟨_,_,rfl⟩;have HE:=vv he;rw[he] at HR;replace HR:Hid (Calls Tryz.prog 263 #[.pointer (some ⟨b,0,none⟩),.func (.func K) #[] #[]] w (q1c b L u w)):=HR;have a9:=vv h.lt;clear h hg he hK;cases hp:u.has [46] with
 | false =>
  have HM:Hid (s.mantissa D=(L,0,if L=[] then u.fail 111 else u)):=vv (by unfold St.mantissa;rw[HE.o];dsimp only;rw[hp];rfl);have b8:=vv hp;clear hp;go_enter Tryz.func226,Tryz.ntmps226
  go_wp2_with fail
  refine HR.o.mono ?_;rintro e w1 ⟨v,rfl,a0,a6,a7,d4,b0⟩;have b2:=vv a0;have b9:=vv a7;have c0:=vv b0;have b3:=vv (q55 b u ⟨#[46]⟩ w1 a6 b8.o);obtain⟨A,cap,rfl⟩:=q18 a0;clear a0 a6 a7 b0;go_wp2_with fail
  refine b3.o.mono ?_;rintro e w2 ⟨rfl,hS,hG⟩;have HS:=vv hS;have b5:=vv (q02 b9.o hG);have a3:=vv (q0J b2.o hG a9.o);clear hG;by_cases hL:L.length=0
  ·have c1:L=[]:=List.eq_nil_of_length_eq_zero hL;subst c1;have HF:=vv (fail b u 111 w2 hS (HG.o.grown b5.o HH.o));have b4:Hid (s.mantissa D=([],0,u.fail 111)):=vv (by rw[HM.o,if_pos rfl]);clear hL hS;go_wp2_with fail
   refine HF.o.mono ?_;rintro e w3 ⟨rfl,hS,hG⟩;have d5:=vv hS;have b6:=vv (q02 b5.o hG);have a2:=vv (q0J a3.o hG a9.o);clear hS hG;go_wp2;go_ret2
   rw[b4.o];show q1A b [] 0 (u.fail 111) w _ _;exact⟨_,rfl,a2.o,d5.o,b6.o,Nat.zero_le _,Nat.zero_le _,fun _ h=>absurd h List.not_mem_nil⟩
  ·have b4:Hid (s.mantissa D=(L,0,u)):=vv (by rw[HM.o,if_neg fun e=>hL (by rw[e];rfl)]);have t1:((L.length:Int)==0)=false:=by rw[beq_eq_false_iff_ne];omega
   clear hL hS;go_wp2;go_ret2
   rw[b4.o];show q1A b L 0 u w _ _;exact⟨_,rfl,a3.o,HS.o,b5.o,by omega,Nat.zero_le _,c0.o⟩
 | true =>
  obtain⟨L2,u2,c2⟩:∃L2 u2,(u.skip 1).row D=(L2,u2):=⟨_,_,rfl⟩;have HM:Hid (s.mantissa D=(L++L2,L2.length,if L.length+L2.length=0 then u2.fail 111 else u2)):=vv (by unfold St.mantissa;rw[HE.o];dsimp only;rw[hp,if_pos rfl,c2]);have b8:=vv hp;have d6:=vv c2;clear hp c2;go_enter Tryz.func226,Tryz.ntmps226
  go_wp2_with fail
  refine HR.o.mono ?_;rintro e w1 ⟨v,rfl,a0,a6,a7,d4,b0⟩;have b2:=vv a0;have b9:=vv a7;have c0:=vv b0;have b3:=vv (q65 b u ⟨#[46]⟩ w1 a6 b8.o);obtain⟨A,cap,hv⟩:=q18 a0;have HV:=vv hv;clear a0 a6 a7 b0 hv;go_wp2_with fail
  refine b3.o.mono ?_;rintro e w2 ⟨rfl,hS,hG⟩;have b5:=vv (q02 b9.o hG);have a3:=vv (q0J b2.o hG a9.o);have b7:=vv (row K D HK.o b (u.skip 1) w2 hS);rw[d6.o] at b7;have e6:=vv hS;replace b7:Hid (Calls Tryz.prog 263 #[.pointer (some ⟨b,0,none⟩),.func (.func K) #[] #[]] w2 (q1c b L2 u2 w2)):=b7;clear hG hS;go_wp2_with fail
  refine b7.o.mono ?_;rintro e w3 ⟨v2,rfl,a0,a6,a7,c3,b0⟩;have b6:=vv (q02 b5.o a7);have a2:=vv (q0J a3.o a7 a9.o);have c4:=vv a0;have c5:=vv b0;have c6:=vv a6;have e7:=a7.size;have d7:=b5.o.size;obtain⟨A2,cap2,d8⟩:=q18 a0;have d3:=vv d8;clear a0 b0 a7;have a8:=a2.o.lt;have c7:Hid (∀d∈L++L2,d<16):=vv (fun d h=>by
   rcases List.mem_append.1 h with h|h
   ·exact c0.o d h
   ·exact c5.o d h)
  rw[d3.o,HV.o];rw[HV.o] at a2 a8;rw[d3.o] at c4;by_cases hL:L.length+L2.length=0
  ·have d9:L=[]:=List.eq_nil_of_length_eq_zero (by omega);have c1:L2=[]:=List.eq_nil_of_length_eq_zero (by omega);subst d9 c1;have HF:=vv (fail b u2 111 w3 a6 (HG.o.grown b6.o HH.o));have b4:Hid (s.mantissa D=([],0,u2.fail 111)):=vv (by rw[HM.o];rfl);clear hL a6 a8;go_wp2_with fail
   refine HF.o.mono ?_;rintro e w4 ⟨rfl,hS,hG⟩;have e0:=vv hS;have e1:=hG.size;have e2:=vv (q02 b6.o hG);have b1:=vv (q0J a2.o hG a9.o);have e3:=vv (q0J c4.o hG (Nat.lt_of_lt_of_le a9.o d7));have a8:=b1.o.lt;clear hS hG;go_wp2_with (at_builtin;refine q1f rfl _ _ 85 rfl w.heap.size w2.heap.size 5 i0 (.int .u8 0) 1 Tryz.underlying85 hi d0 d1 d2 rfl _ 0 (u8s []) rfl b1.o _ 0 (u8s []) rfl e3.o (q6p []) (by decide) (by decide) (by omega) ?_)
   intro v' w5 a4 a1;have c8:Hid (ScAt w5 b (u2.fail 111)):=vv (e0.o.grown a1 (fun k e=>by have:=(a8 k e).1;have:=a9.o;omega));have c9:=vv (q0f e2.o a1 (fun k e=>(a8 k e).1));have a5:=vv a4;clear a4 a1 a8;go_wp2;go_ret2
   rw[b4.o];show q1A b [] 0 (u2.fail 111) w _ _;exact⟨_,rfl,a5.o,c8.o,c9.o,Nat.zero_le _,Nat.zero_le _,fun _ h=>absurd h List.not_mem_nil⟩
  ·have b4:Hid (s.mantissa D=(L++L2,L2.length,u2)):=vv (by rw[HM.o,if_neg hL]);have t1:((L.length:Int)+(L2.length:Int)==0)=false:=by rw[beq_eq_false_iff_ne];omega
   have e4:(L.length:Int)+(L2.length:Int)<=131072:=by omega
   clear hL a6;go_wp2_with (at_builtin;refine q1f rfl _ _ 85 rfl w.heap.size w2.heap.size 5 i0 (.int .u8 0) 1 Tryz.underlying85 hi d0 d1 d2 rfl _ L.length (u8s L) rfl a2.o _ L2.length (u8s L2) rfl c4.o (q6p L2) (by unfold maxLen;omega) (by omega) (by omega) ?_)
   intro v' w5 a4 a1;have c8:Hid (ScAt w5 b u2):=vv (c6.o.grown a1 (fun k e=>by have:=(a8 k e).1;have:=a9.o;omega));have c9:=vv (q0f b6.o a1 (fun k e=>(a8 k e).1));have a5:Hid (w5.ownsRow w.heap.size 5 1 v' (L++L2).length (u8s (L++L2))):=vv (by rw[q6q,List.length_append];exact a4);have e5:Hid ((L++L2).length<=131072):=vv (by rw[List.length_append];omega);clear a4 a1 a8;go_wp2;go_ret2
   rw[b4.o];show q1A b (L++L2) L2.length u2 w _ _;exact⟨_,rfl,a5.o,c8.o,c9.o,e5.o,c3,c7.o⟩
theorem qb7(x:Int)(w:World):Calls Tryz.prog 233 #[.int .i64 x] w fun e w'=>e=.returned (.int .i64 (q7w x))/\w=w':=by
 obtain⟨c,hc⟩:∃c,max (-1073741824) (min x 1073741824)=c:=⟨_,rfl⟩;have HC:Hid (q7w x=c):=vv (by unfold q7w;exact hc);go_enter Tryz.func233,Tryz.ntmps233
 go_wp2;go_ret
 exact⟨q0A (by rw[HC.o]),rfl⟩
theorem q7j:∀(l:List Nat) (n:Nat),n<=68719476736->q67 l n<=68719476736:=by
 intro l
 induction l with
 | nil=>intro n h;exact h
 | cons a l ih =>
  intro n _;exact ih _ (Nat.min_le_right _ _)
theorem q7i(l:List Nat)(d n:Nat):q67 (l++[d]) n=min (10*q67 l n+d) 68719476736:=by
 unfold q67;rw[List.foldl_append];rfl
theorem q2v(L:List Nat)(k:Nat)(h:k<L.length):L.take (k+1)=L.take k++[nth L k]:=by
 rw[List.take_succ_eq_append_getElem h];unfold nth;rw[List.getD_eq_getElem?_getD,List.getElem?_eq_getElem h];rfl
theorem exponent(b:Nat)(s:St)(p:ByteArray)(w:World)(h:ScAt w b s)(hg:Bg w)(hp:p.size<=65536):
  Calls Tryz.prog 228 #[.pointer (some ⟨b,0,none⟩),.string p] w (ScP b (s.exponent p.data.toList).2 (.int .i64 (s.exponent p.data.toList).1) w):=by
 have HF:=vv (fold b s p w h hp);have HH:=vv h;have HG:=vv hg;cases hb:s.fold p.data.toList with
 | false =>
  have HE:Hid (s.exponent p.data.toList=(0,s)):=vv (by unfold St.exponent;rw[hb];rfl);have HO:Hid (s.over p=s):=vv (by unfold St.over;rw[hb];rfl);rw[hb,HO.o] at HF;clear h hg hb;go_enter Tryz.func228,Tryz.ntmps228
  go_wp2_with fail
  refine HF.o.mono ?_;rintro e w1 ⟨rfl,hS,hG⟩;go_wp2;go_ret
  rw[HE.o];exact⟨rfl,hS,hG⟩
 | true =>
  obtain⟨m,u,hm⟩:∃m u,(s.skip p.size).minus=(m,u):=⟨_,_,rfl⟩;obtain⟨L,v,hv⟩:∃L v,u.must ten=(L,v):=⟨_,_,rfl⟩;have HE:Hid (s.exponent p.data.toList=(if m then -(q67 L 0:Int) else(q67 L 0:Int),v)):=vv (by
   unfold St.exponent;rw[hb,if_pos rfl];dsimp only;rw[q0D,hm];dsimp only;rw[hv])
  have HO:Hid (s.over p=s.skip p.size):=vv (by unfold St.over;rw[hb];rfl);rw[hb,HO.o] at HF;have HM:=vv hm;have HV:=vv hv;clear h hg hb hm hv;go_enter Tryz.func228,Tryz.ntmps228
  go_wp2_with fail
  refine HF.o.mono ?_;rintro e w1 ⟨rfl,hS,hG⟩;have b4:=vv hG;have a7:=vv (minus b (s.skip p.size) w1 hS);rw[HM.o] at a7;clear hS hG;go_wp2_with fail
  refine a7.o.mono ?_;rintro e w2 ⟨rfl,hS,hG⟩;have a8:=vv (q02 b4.o hG);have a5:=vv (must 175 ten q5v b u w2 hS (HG.o.grown a8.o HH.o));rw[HV.o] at a5;replace a5:Hid (Calls Tryz.prog 264 #[.pointer (some ⟨b,0,none⟩),.func (.func 175) #[] #[]] w2 (q1c b L v w2)):=a5;clear hS hG;go_wp2_with fail
  refine a5.o.mono ?_;rintro e w3 ⟨x,rfl,a0,a9,b0,b9,b1⟩;have a1:=vv a0;have b2:=vv a9;have b3:=vv (q02 a8.o b0);have b5:=vv b1;obtain⟨A,cap,rfl⟩:=q18 a0;have c0:(L.length:Int)<=65536:=by omega
  clear a0 a9 b0 b1;go_wp2;go_loop [6,18] (fun n i=>∃k:Nat,k<=L.length/\i=.int .i64 (k:Int)/\n=.int .i64 ((q67 (L.take k) 0:Nat):Int)) (fun _ i=>L.length-(intOf i).toNat)
  case atStart=>exact⟨0,Nat.zero_le _,rfl,rfl⟩
  case round =>
   obtain⟨k,hk,rfl,rfl⟩:=hrel;have a2:=q7j (L.take k) 0 (by decide);by_cases hkl:k<L.length
   ·obtain⟨g,cap',e,c1⟩:=q2y a1.o (by omega);cases e
    obtain⟨r1,r2,r3,r4⟩:=q37 a1.o hkl;have a3:nth L k<16:=b5.o _ (by
     unfold nth;rw[List.getD_eq_getElem?_getD,List.getElem?_eq_getElem hkl];exact List.getElem_mem hkl)
    have a4:=(congrArg (fun l=>q67 l 0) (q2v L k hkl)).trans (q7i _ _ _)
    try dsimp only at a4
    obtain⟨d,hd⟩:=yx (nth L k);obtain⟨n,hn⟩:=yx (q67 (L.take k) 0);obtain⟨n',a6⟩:∃n',n'=q67 (L.take (k+1)) 0:=⟨_,rfl⟩;rw[<- hd] at r1 a3 a4;rw[<- hn] at a4 a2 ⊢;rw[<- a6] at a4;have b6:min (10*(n:Int)+(d:Int)) 68719476736=(n':Int):=by omega
    have HN:=vv a6;have b7:(n:Int)<=68719476736:=by omega
    have c2:(d:Int)<=15:=by omega
    have c3:(k:Int)<(L.length:Int):=by omega
    clear a4 hd hn a6 a2 a3;go_wp2;go_round
    case rel=>exact⟨k+1,by omega,by go_num,by rw[HN.o]⟩
    case measure=>simp [intOf];omega
   ·have b8:k=L.length:=by omega
    subst b8;rw[List.take_length] at a2 ⊢;obtain⟨n,hn⟩:=yx (q67 L 0);rw[<- hn] at a2 HE ⊢;have b7:(n:Int)<=68719476736:=by omega
    clear hn a2;cases m with
    | false =>
     go_wp2;go_ret
     rw[HE.o];exact⟨rfl,b2.o,b3.o⟩
    | true =>
     go_wp2;go_ret
     rw[HE.o];exact⟨rfl,b2.o,b3.o⟩
end Go.Proofs.YtcdimmblnbkjjaaGreatDoor.Scn
