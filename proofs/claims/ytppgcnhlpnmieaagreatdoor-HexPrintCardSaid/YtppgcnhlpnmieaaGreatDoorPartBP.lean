/- Lemmas. -/
import Derived.Test.YtppgcnhlpnmieaaGreatDoorPartBL
import Derived.ScopeJumps
set_option linter.all false
set_option maxRecDepth 100000
namespace Go.Proofs.YtppgcnhlpnmieaaGreatDoor.Hx
open Go Go.RowKit R5 Scn Fms Exa
abbrev q9j:ByteArray:=⟨#[48,49,50,51,52,53,54,55,56,57,97,98,99,100,101,102]⟩
def atL(s:ByteArray)(i:Nat):Int:=if i=0 then fig ⟨#[48]⟩ s 0 else if i=1 then fig ⟨#[120]⟩ s 1 else fig q9j s i
def q1f(s:ByteArray):Nat->Nat
 | 0=>0
 | k+1=>q1f s k*16+(fig q9j s (2+k)).toNat
abbrev ldV(r:Nat)(i:Nat)(c:Int):Ending:=.returned (.tuple #[.int .u64 (r:Int),.int .i64 (i:Int),.int .i64 c])
def LdE(E F:Nat)(s:ByteArray)(d:Nat)(e:Ending):Prop:=
 (∃i,i<2+d/\(∀j,j<i->0<=atL s j)/\atL s i<0/\e=ldV 0 i 12) \/
 ((∀j,j<2+d->0<=atL s j) /\
  ((2+d<s.size/\e=ldV 0 (2+d) 12) \/
   (s.size<=2+d/\q0b E F (q1f s (d))≠0/\e=ldV 0 2 6) \/
   (s.size<=2+d/\q0b E F (q1f s (d))=0/\e=ldV (q1f s (d)) 0 0)))
theorem q3y:∀(l:List UInt8) (c:UInt8),-1<=Lib.indexByte l c/\Lib.indexByte l c<l.length
 | [],_=>by simp [Lib.indexByte]
 | b::l,c=>by
  have h:=q3y l c;unfold Lib.indexByte;split
  ·simp
  ·split
   ·simp;omega
   ·simp only[List.length_cons];omega
theorem q5P(s:ByteArray)(i:Nat):-1<=fig q9j s i/\fig q9j s i<16:=by
 unfold fig;split
 ·exact q3y _ _
 ·omega
theorem q4Z{set s:ByteArray}{i:Nat}(h:0<=fig set s i):i<s.size:=by
 unfold fig at h;split at h
 ·assumption
 ·omega
theorem q3L(s:ByteArray):∀k,q1f s k<16^k
 | 0=>by simp [q1f]
 | k+1=>by
  have h:=q3L s k;have h2:=q5P s (2+k);unfold q1f;rw[Nat.pow_succ];omega
theorem q5t{P:Program}{a:Act}{w:World}{Q:Exit->Act->World->Prop}{c rest:Code}(l:Nat)(J:Act->World->Prop)(μ:Act->World->Nat)(hf:findLabel c l=some (.seq .skip rest))
  (pass:∀a w,J a w->rest.wp P (Exit.jump l (fun a' w'=>J a' w'/\μ a' w'<μ a w) Q) a w)
  (first:(∀a w,J a w->rest.wp P (Exit.jump l J Q) a w)->c.wp P (Exit.jump l J Q) a w):(Code.scope c).wp P Q a w:=
 wp_scope_jumps l J μ hf (first fun a w h=>wp_mono (pass a w h) fun e a w h=>by
  cases e<;>first|exact h|exact⟨h.1,h.2.1⟩) fun a w h=>wp_seq (wp_skip (pass a w h))
def ldM(d:Nat)(a:Act)(w:World):Nat:=match a.tmps.getD 8 undef with
 | .pointer (some p)=>(match w.cell? p with|some (.int _ z)=>2+d-z.toNat|_=>0)
 | _=>0
def LdI(E F:Nat)(s:ByteArray)(d b:Nat)(w:World)(a:Act)(wr:World):Prop:=
 ∃(g k:Nat) (u7 u12 u13 u14 u15 u16 u17 u18 u19 u20 u21 u22 u23 u24 u25 u26 u27 u28 u29 u30 u31 u32 u33 u34 u35 u36 u37 u38 u39 u40 u41 u42 u43 u44 u45 u46 u47 u48 u49 u50 u51 u52 u53 u54 u55 u56 u57 u58 u59 u60 u61:Value),a={tmps:=#[fm E F,.string s,.pointer (some ⟨b,0,none⟩),.pointer (some ⟨b+1,0,none⟩),.int .u64 0,.int .i64 0,.int .i64 0,u7,.pointer (some ⟨g,0,none⟩),.int .i64 (2+(d:Int)),.int .u64 ((q1f s k:Nat):Int),.func (.func 127) #[] #[.pointer (some ⟨g,0,none⟩),.pointer (some ⟨b+1,0,none⟩)],u12,u13,u14,u15,u16,u17,u18,u19,u20,u21,u22,u23,u24,u25,u26,u27,u28,u29,u30,u31,u32,u33,u34,u35,u36,u37,u38,u39,u40,u41,u42,u43,u44,u45,u46,u47,u48,u49,u50,u51,u52,u53,u54,u55,u56,u57,u58,u59,u60,u61],defers:=[]}/\k<=d/\(∀j,j<2+k->0<=atL s j)/\b+1<g/\Blk wr g 3 [.int .i64 (2+(k:Int))] /\
  Blk wr b 23 [.int .i64 (E:Int),.int .i64 (F:Int)]/\Blk wr (b+1) 9 [.string s]/\Below b w wr
set_option maxHeartbeats 2000000 in
theorem qe7(E F:Nat)(s:ByteArray)(w:World)(h1:2<=E)(h2:E<=11)(h3:1<=F)(h4:F<=52)(hs:s.size<=65536):
  Calls Tryz.prog 52 #[fm E F,.string s] w fun e w'=>LdE E F s ((E+F+4)/4) e/\Below w.heap.size w w':=by
 have c5:=R3.chk_ok (Fms.formOk_in (E:=E) (F:=F) (by omega) (by omega) h3 h4);have c6:=vv fun w=>Fms.Check (E:Int) F w
 rw[c5] at c6;have c7:=vv fun w=>qcY E F w (by omega) (by omega)
 have b5:=vv fun set g b i w hg hb hi=>qdw set s g b i w hg hb hi (by omega)
 obtain⟨d,hd⟩:=yx ((E+F+4)/4);rw[<- hd] at c7 ⊢;have f1:(d:Int)<=16:=by omega
 have f2:(s.size:Int)<=65536:=by omega
 obtain⟨w0,b6⟩:=yx ((w.alloc (.cells #[.int .i64 (E:Int),.int .i64 (F:Int)] 23)).alloc (.cells #[.string s] 9));have hB:Below w.heap.size w w0:=by rw[b6];exact((Below.refl _ _).alloc lr _).alloc (by simp) _
 have HW:=vv b6;have HB:=vv hB;clear b6 hB hd c5 h1 h2 h3 h4 hs;go_enter Tryz.func52,Tryz.ntmps52
 go_wp2_with fail
 rw[<- HW.o];refine q5t 0 (fun a' w'=>LdI E F s d w.heap.size w a' w') (ldM d) rfl ?_ (fun pass=>?_);rotate_left
 ·have d8:=vv pass;clear pass;have hQ:Blk w0 w.heap.size 23 [.int .i64 (E:Int),.int .i64 (F:Int)]:=by rw[HW.o];exact(Blk.made w 23 [.int .i64 (E:Int),.int .i64 (F:Int)]).alloc _
  have hS:Blk w0 (w.heap.size+1) 9 [.string s]:=by
   rw[HW.o];have:=Blk.made (w.alloc (.cells #[.int .i64 (E:Int),.int .i64 (F:Int)] 23)) 9 [.string s]
   rwa [World.size_alloc] at this
  have HQ:=vv hQ;have HS:=vv hS;have c0:=hQ.cell 0;have c1:=hQ.cell 1;have cl:=hQ.lt;simp only[List.getElem?_cons_zero,List.getElem?_cons_succ] at c0 c1;clear hQ hS;go_wp2_with fail
  refine(c6.o _).mono ?_;rintro e w1 ⟨rfl,hB⟩;have a9:=vv (HQ.o.below hB);have b7:=vv (HS.o.below hB);have d9:=vn HB hB;clear hB c0 c1 cl;have c0:=a9.o.cell 0;have c1:=a9.o.cell 1;have cl:=a9.o.lt;have s0:=b7.o.cell 0;have sl:=b7.o.lt;simp only[List.getElem?_cons_zero,List.getElem?_cons_succ] at c0 c1 s0;go_wp2_with fail
  refine(c7.o _).mono ?_;rintro e w2 ⟨rfl,hB⟩;have e0:=vv (a9.o.below hB);have c8:=vv (b7.o.below hB);have a5:=vn d9 hB;clear hB c0 c1 cl s0 sl;obtain⟨w3,b0⟩:=yx (w2.alloc (.cells #[.int .i64 0] 3));have b1:Below w2.heap.size w2 w3:=by rw[b0];exact(Below.refl _ _).alloc lr _
  have c9:Blk w3 w2.heap.size 3 [.int .i64 0]:=by rw[b0];exact Blk.made w2 3 [.int .i64 0]
  obtain⟨g,hg⟩:=yx (w2.heap.size);have b2:w.heap.size+1<g:=by rw[hg];exact c8.o.lt
  have e2:=vv (e0.o.below b1);have d0:=vv (c8.o.below b1);have d1:=vn a5 b1;have e3:=vv b0;have HG:=vv hg;have a0:=vv b2;have a6:Hid (Blk w3 g 3 [.int .i64 ((0:Nat):Int)]):=vv (by rw[hg];exact c9);clear b1 b0 hg b2 c9;go_wp2_with fail
  rw[<- e3.o,<- HG.o];refine(b5.o _ _ _ 0 _ (a6.o.cell 0) (d0.o.cell 0) (Nat.zero_le _)).mono ?_;rintro e w' ⟨rfl,rfl⟩;obtain⟨z,hz⟩:=yx (fig ⟨#[48]⟩ s 0);rw[<- hz];have c3:=a6.o.cell 0;have cl:=a6.o.lt;have cf:=a6.o.fz 0;simp only[List.getElem?_cons_zero] at c3;have HZ:=vv hz;clear hz;by_cases hz0:z<0
  ·have HA:Hid (LdE E F s d (ldV 0 0 12)):=vv (Or.inl ⟨0,by omega,fun j hj=>absurd hj (by omega),by unfold atL;rw[if_pos rfl,<- HZ.o];exact hz0,rfl⟩);go_wp2_with fail
   go_region
   go_wp2;simp only[Exit.jump];go_ret3
   exact⟨HA.o,q04 d1.o⟩
  ·have a7:0<=z:=by omega
   obtain⟨w4,a3⟩:=yx (w3.setCell ⟨g,0,none⟩ (.int .i64 1));have a8:Hid (Blk w4 g 3 [.int .i64 ((1:Nat):Int)]):=vv (by rw[a3];exact a6.o.set 0 _);have e4:Hid (Blk w4 w.heap.size 23 [.int .i64 (E:Int),.int .i64 (F:Int)]):=vv (by rw[a3];exact e2.o.other (p:=⟨g,0,none⟩) (by have:=a0.o;show g≠_;omega) _);have d2:Hid (Blk w4 (w.heap.size+1) 9 [.string s]):=vv (by rw[a3];exact d0.o.other (p:=⟨g,0,none⟩) (by have:=a0.o;show g≠_;omega) _);have d3:Hid (Below w.heap.size w w4):=vv (by rw[a3];exact d1.o.setCell (p:=⟨g,0,none⟩) (by have:=a0.o;show _<=g;omega) _);have d4:Hid (1<=s.size):=vv (by rw[HZ.o] at a7;exact q4Z a7);have e5:=vv a3;clear a3;go_wp2_with fail
   rw[<- e5.o];refine(b5.o _ _ _ 1 _ (a8.o.cell 0) (d2.o.cell 0) d4.o).mono ?_;rintro e w' ⟨rfl,rfl⟩;obtain⟨y,hy⟩:=yx (fig ⟨#[120]⟩ s 1);rw[<- hy];clear c3 cl cf;have c3:=a8.o.cell 0;have cl:=a8.o.lt;have cf:=a8.o.fz 0;simp only[List.getElem?_cons_zero] at c3;have HY:=vv hy;have d5:=vv a7;clear hy;by_cases hy0:y<0
   ·have HA:Hid (LdE E F s d (ldV 0 1 12)):=vv (Or.inl ⟨1,by omega,fun j hj=>by
     obtain rfl:j=0:=by omega
     unfold atL;rw[if_pos rfl,<- HZ.o];exact d5.o,by unfold atL;rw[if_neg (by decide),if_pos rfl,<- HY.o];exact hy0,rfl⟩)
    go_wp2_with fail
    go_region
    go_wp2;simp only[Exit.jump];go_ret3
    exact⟨HA.o,q04 d3.o⟩
   ·have e6:0<=y:=by omega
    go_wp2_with fail
    go_step3
    have a1:g≠w.heap.size:=by have:=a0.o;omega
    have a2:g≠w.heap.size+1:=by have:=a0.o;omega
    have b3:Blk (w4.setCell ⟨g,0,none⟩ (.int .i64 2)) g 3 [.int .i64 (2+((0:Nat):Int))]:=a8.o.set 0 _;rename_i hK;refine hK _ _ (d8.o _ _ ?_);exact⟨g,0,_,_,_,_,_,_,_,_,_,_,_,_,_,_,_,_,_,_,_,_,_,_,_,_,_,_,_,_,_,_,_,_,_,_,_,_,_,_,_,_,_,_,_,_,_,_,_,_,_,_,_,rfl,Nat.zero_le _,(fun j hj=>by
     rcases Nat.eq_zero_or_pos j with h|h
     ·subst h;unfold atL;rw[if_pos rfl,<- HZ.o];exact d5.o
     ·obtain rfl:j=1:=by omega
      unfold atL;rw[if_neg (by decide),if_pos rfl,<- HY.o];exact e6),a0.o,b3,e4.o.other (p:=⟨g,0,none⟩) a1 _,d2.o.other (p:=⟨g,0,none⟩) a2 _,d3.o.setCell (p:=⟨g,0,none⟩) (by have:=a0.o;show _<=g;omega) _⟩
 ·rintro a' w' ⟨g,k,u7,u12,u13,u14,u15,u16,u17,u18,u19,u20,u21,u22,u23,u24,u25,u26,u27,u28,u29,u30,u31,u32,u33,u34,u35,u36,u37,u38,u39,u40,u41,u42,u43,u44,u45,u46,u47,u48,u49,u50,u51,u52,u53,u54,u55,u56,u57,u58,u59,u60,u61,rfl,hk,d6,b2,hC,hQ,hS,hB⟩;have c3:=hC.cell 0;have cl:=hC.lt;have cf:=hC.fz 0;simp only[List.getElem?_cons_zero] at c3;have HC:=vv hC;have HQ:=vv hQ;have HS:=vv hS;have HB:=vv hB;have a4:=vv d6;have a0:=vv b2;clear hC hQ hS hB d6;rcases Nat.lt_or_ge k d with b8|b8
  ·have t1:(2+(k:Int))<2+(d:Int):=by omega
   have f3:(k:Int)<=16:=by omega
   have b9:2+k<=s.size:=by
    have h:=a4.o (2+k-1) (by omega);unfold atL at h;rcases Nat.eq_zero_or_pos k with h0|h0
    ·subst h0;rw[if_neg (by decide),if_pos rfl] at h;have:=q4Z h;omega
    ·rw[if_neg (by omega),if_neg (by omega)] at h;have:=q4Z h;omega
   have e7:Hid (Calls Tryz.prog 127 #[.string q9j,.pointer (some ⟨g,0,none⟩),.pointer (some ⟨w.heap.size+1,0,none⟩)] w' fun e w''=>e=.returned (.int .i64 (fig q9j s (2+k)))/\w'=w''):=vv (b5.o q9j g (w.heap.size+1) (2+k) w' (by rw[show((2+k:Nat):Int)=2+(k:Int) by omega];exact c3) (HS.o.cell 0) b9);have b4:=vv b8;have d4:=vv b9;clear b9 b8 hk;go_wp2_with fail
   refine e7.o.mono ?_;rintro e w'' ⟨rfl,rfl⟩;obtain⟨z,hz⟩:=yx (fig q9j s (2+k));rw[<- hz];have e8:=q5P s (2+k);rw[<- hz] at e8;have HZ:=vv hz;clear hz;by_cases hz0:z<0
   ·have HA:Hid (LdE E F s d (ldV 0 (2+k) 12)):=vv (Or.inl ⟨2+k,by have:=b4.o;omega,a4.o,by unfold atL;rw[if_neg (by omega),if_neg (by omega),<- HZ.o];exact hz0,rfl⟩);go_wp2_with fail
    go_region
    go_wp2;simp only[Exit.jump];go_ret3
    refine⟨?_,q04 HB.o⟩;have h:=HA.o;rw[show ldV 0 (2+k) 12=.returned (.tuple #[.int .u64 0,.int .i64 (2+(k:Int)),.int .i64 12]) by unfold ldV;rw[show((2+k:Nat):Int)=2+(k:Int) by omega];rfl] at h;exact h
   ·have a7:0<=z:=by omega
    obtain⟨n,rfl⟩:∃n:Nat,z=(n:Int):=⟨z.toNat,by omega⟩;have c2:=q3L s k;have hp:16^k<=16^15:=Nat.pow_le_pow_right (by decide) (by have:=b4.o;omega);have e9:Hid (IntKind.u64.wrap ((q1f s k:Int)*16)=((q1f s k*16:Nat):Int)):=vv (by rw[IntKind.wrap_u64];omega);have f0:Hid (bits .or .u64 ((q1f s k*16:Nat):Int) (n:Int)=((q1f s (k+1):Nat):Int)):=vv (by
     rw[u64_or_nat _ _ (by omega) (by omega)];have h:=Nat.two_pow_add_eq_or_of_lt (i:=4) (b:=n) (by omega) (q1f s k);rw[show q1f s (k+1)=q1f s k*16+(fig q9j s (2+k)).toNat from rfl,<- HZ.o,Int.toNat_natCast,show q1f s k*16=2^4*q1f s k by omega,h])
    clear c2 hp;go_wp2_with fail
    rw[e9.o,f0.o];go_step3
    have a1:g≠w.heap.size:=by have:=a0.o;omega
    have a2:g≠w.heap.size+1:=by have:=a0.o;omega
    have b3:Blk (w'.setCell ⟨g,0,none⟩ (.int .i64 (2+(k:Int)+1))) g 3 [.int .i64 (2+((k+1:Nat):Int))]:=by
     have:=HC.o.set 0 (.int .i64 (2+(k:Int)+1))
     rwa [show 2+((k+1:Nat):Int)=2+(k:Int)+1 by omega]
    refine⟨rfl,⟨g,k+1,_,_,_,_,_,_,_,_,_,_,_,_,_,_,_,_,_,_,_,_,_,_,_,_,_,_,_,_,_,_,_,_,_,_,_,_,_,_,_,_,_,_,_,_,_,_,_,_,_,_,_,rfl,b4.o,?_,a0.o,b3,HQ.o.other (p:=⟨g,0,none⟩) a1 _,HS.o.other (p:=⟨g,0,none⟩) a2 _,HB.o.setCell (p:=⟨g,0,none⟩) (by have:=a0.o;show _<=g;omega) _⟩,?_⟩
    ·intro j hj;rcases Nat.lt_or_ge j (2+k) with h|h
     ·exact a4.o j h
     ·obtain rfl:j=2+k:=by omega
      unfold atL;rw[if_neg (by omega),if_neg (by omega),<- HZ.o];exact a7
    ·have e1:=b3.cell 0;simp only[List.getElem?_cons_zero] at e1;have f4:=b4.o;simp only[ldM,Array.getD_eq_getD_getElem?,List.getElem?_toArray,List.getElem?_cons_succ,List.getElem?_cons_zero,Option.getD_some];rw[e1,c3];show 2+d-(2+((k+1:Nat):Int)).toNat<2+d-(2+(k:Int)).toNat;omega
  ·obtain rfl:k=d:=by omega
   have s0:=HS.o.cell 0;have sl:=HS.o.lt;have c0:=HQ.o.cell 0;have c1:=HQ.o.cell 1;have ql:=HQ.o.lt;simp only[List.getElem?_cons_zero,List.getElem?_cons_succ] at s0 c0 c1;have c2:=q3L s k;have hp:16^k<=16^16:=Nat.pow_le_pow_right (by decide) (by omega);have c4:=vv fun w=>Fits E F (q1f s k) w (by omega)
   obtain⟨q,hq⟩:=yx (q0b E F (q1f s k));rw[<- hq] at c4;have d7:=vv hq;clear c2 hp hq;rcases Nat.lt_or_ge (2+k) s.size with hl|hl
   ·have t1:2+(k:Int)<(s.size:Int):=by omega
    have HA:Hid (LdE E F s k (.returned (.tuple #[.int .u64 0,.int .i64 (2+(k:Int)),.int .i64 12]))):=vv (Or.inr ⟨a4.o,Or.inl ⟨hl,by unfold ldV;rw[show((2+k:Nat):Int)=2+(k:Int) by omega];rfl⟩⟩);go_wp2_with fail
    go_region
    go_wp2;simp only[Exit.jump];go_ret3
    exact⟨HA.o,q04 HB.o⟩
   ·have t1:¬2+(k:Int)<(s.size:Int):=by omega
    have t2:(s.size:Int)<=2+(k:Int):=by omega
    by_cases hq0:q=0
    ·have HA:Hid (LdE E F s k (ldV (q1f s k) 0 0)):=vv (Or.inr ⟨a4.o,Or.inr (Or.inr ⟨hl,by rw[<- d7.o];exact hq0,rfl⟩)⟩);have t3:(q==0)=true:=by rw[hq0];rfl
     go_wp2_with fail
     refine(c4.o _).mono ?_;rintro e w2 ⟨rfl,hB⟩;have a5:=vn HB hB;clear hB;go_wp2;simp only[Exit.jump];go_ret3
     exact⟨HA.o,a5.o⟩
    ·have HA:Hid (LdE E F s k (ldV 0 2 6)):=vv (Or.inr ⟨a4.o,Or.inr (Or.inl ⟨hl,by rw[<- d7.o];exact hq0,rfl⟩)⟩);have t3:(q==0)=false:=by rw[beq_eq_false_iff_ne];exact hq0
     go_wp2_with fail
     refine(c4.o _).mono ?_;rintro e w2 ⟨rfl,hB⟩;have a5:=vn HB hB;clear hB;go_wp2;simp only[Exit.jump];go_ret3
     exact⟨HA.o,a5.o⟩
end Go.Proofs.YtppgcnhlpnmieaaGreatDoor.Hx
