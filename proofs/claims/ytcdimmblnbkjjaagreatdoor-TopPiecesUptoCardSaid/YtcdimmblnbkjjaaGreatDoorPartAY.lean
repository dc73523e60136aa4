/- Lemmas. -/
import Derived.Test.YtcdimmblnbkjjaaGreatDoorPartAX
import Derived.Test.YtcdimmblnbkjjaaGreatDoorPartAW
import Derived.Laws.EntriesVeiled
import Derived.Test.YtcdimmblnbkjjaaGreatDoorPartAV
set_option linter.all false
set_option maxHeartbeats 2000000
set_option maxRecDepth 100000
namespace Go.Proofs.YtcdimmblnbkjjaaGreatDoor.Rnd
open Go Go.RowKit R5
theorem qaT(n:Int)(b:Nat)(w:World)(h1:-4611686018427387904<=n)(h2:n<=4611686018427387904)(hb:(b:Int)<=35184372088832):
  Calls Tryz.prog 53 #[.int .i64 n,.int .i64 (b:Int)] w fun e w'=>e=.returned (.int .i64 (q3c n (b+1200)))/\w=w':=by
 have HN:Hid (q3c n ((b:Int)+1200)=max (-(b:Int)-1200) (min n ((b:Int)+1200))):=vv (by unfold q3c;omega);go_enter Tryz.func53,Tryz.ntmps53
 go_wp2;go_ret
 exact⟨q0A HN.o.symm,rfl⟩
abbrev q7K(neg odd:Bool)(half:Int):Value:=.agg #[.bool neg,.bool odd,.int .i64 half]
theorem q3u(neg odd:Bool)(half:Int)(w:World):
  Calls Tryz.prog 248 #[q7K neg odd half] w fun e w'=>e=.returned (.bool (q3B neg 0 odd half))/\Below w.heap.size w w':=by
 have HM:Hid (q3B neg 0 odd half=(decide (0<half) || (decide (half=0) && odd))):=vv rfl;by_cases h1:0<half
 ·have HF:Hid (q3B neg 0 odd half=true):=vv (by rw[HM.o,decide_eq_true h1];rfl);have d1:decide (0<half)=true:=decide_eq_true h1;clear h1;go_enter Tryz.func248,Tryz.ntmps248
  go_wp2;go_ret
  exact⟨q3y HF.o.symm,(Below.refl _ _).alloc lr _⟩
 have d1:decide (0<half)=false:=decide_eq_false h1;by_cases h2:half=0
 ·have HF:Hid (q3B neg 0 odd half=odd):=vv (by rw[HM.o,decide_eq_false h1,decide_eq_true h2];simp);have t2:(half==0)=true:=by rw[h2];rfl
  clear h1 h2;go_enter Tryz.func248,Tryz.ntmps248
  go_wp2;go_ret
  exact⟨q3y HF.o.symm,(Below.refl _ _).alloc lr _⟩
 ·have HF:Hid (q3B neg 0 odd half=false):=vv (by rw[HM.o,decide_eq_false h1,decide_eq_false h2];rfl);have t2:(half==0)=false:=by rw[beq_eq_false_iff_ne];exact h2
  clear h1 h2;go_enter Tryz.func248,Tryz.ntmps248
  go_wp2;go_ret
  exact⟨q3y HF.o.symm,(Below.refl _ _).alloc lr _⟩
theorem qcl(neg odd:Bool)(half:Int)(w:World):
  Calls Tryz.prog 249 #[q7K neg odd half] w fun e w'=>e=.returned (.bool (q3B neg 1 odd half))/\Below w.heap.size w w':=by
 have HM:Hid (q3B neg 1 odd half=decide (0<=half)):=vv rfl;go_enter Tryz.func249,Tryz.ntmps249
 go_wp2;go_ret
 exact⟨q3y HM.o.symm,(Below.refl _ _).alloc lr _⟩
theorem zero(neg odd:Bool)(half:Int)(w:World):
  Calls Tryz.prog 250 #[q7K neg odd half] w fun e w'=>e=.returned (.bool (q3B neg 2 odd half))/\Below w.heap.size w w':=by
 have HM:Hid (q3B neg 2 odd half=false):=vv rfl;go_enter Tryz.func250,Tryz.ntmps250
 go_wp2;go_ret
 exact⟨q3y HM.o.symm,(Below.refl _ _).alloc lr _⟩
theorem up(neg odd:Bool)(half:Int)(w:World):
  Calls Tryz.prog 251 #[q7K neg odd half] w fun e w'=>e=.returned (.bool (q3B neg 3 odd half))/\Below w.heap.size w w':=by
 have HM:Hid (q3B neg 3 odd half=!neg):=vv rfl;go_enter Tryz.func251,Tryz.ntmps251
 go_wp2;go_ret
 exact⟨q3y HM.o.symm,(Below.refl _ _).alloc lr _⟩
theorem qbg(neg odd:Bool)(half:Int)(w:World):
  Calls Tryz.prog 252 #[q7K neg odd half] w fun e w'=>e=.returned (.bool (q3B neg 4 odd half))/\Below w.heap.size w w':=by
 have HM:Hid (q3B neg 4 odd half=neg):=vv rfl;go_enter Tryz.func252,Tryz.ntmps252
 go_wp2;go_ret
 exact⟨q3y HM.o.symm,(Below.refl _ _).alloc lr _⟩
abbrev q3d:Value:=.agg #[.func (.func 248) #[] #[],.func (.func 249) #[] #[],.func (.func 250) #[] #[],.func (.func 251) #[] #[],.func (.func 252) #[] #[]]
theorem qbq(w:World):
  Calls Tryz.prog 198 #[] w fun e w'=>e=.returned q3d/\Below w.heap.size w w':=by
 go_enter Tryz.func198,Tryz.ntmps198
 go_wp2;exact bodyPost_ret (v:=q3d) (by simp [results,Tryz.results198,go_sem]) rfl ⟨rfl,(Below.refl _ _).alloc lr _⟩
@[go_sem] theorem qcz(w:World):(Instr.index 251 q3d (.int .u8 0)).run Tryz.prog w=.ok (.func (.func 248) #[] #[]) w:=by kernel_rfl
@[go_sem] theorem qcy(w:World):(Instr.index 251 q3d (.int .u8 1)).run Tryz.prog w=.ok (.func (.func 249) #[] #[]) w:=by kernel_rfl
@[go_sem] theorem qcx(w:World):(Instr.index 251 q3d (.int .u8 2)).run Tryz.prog w=.ok (.func (.func 250) #[] #[]) w:=by kernel_rfl
@[go_sem] theorem qcw(w:World):(Instr.index 251 q3d (.int .u8 3)).run Tryz.prog w=.ok (.func (.func 251) #[] #[]) w:=by kernel_rfl
@[go_sem] theorem qcv(w:World):(Instr.index 251 q3d (.int .u8 4)).run Tryz.prog w=.ok (.func (.func 252) #[] #[]) w:=by kernel_rfl
def q7B(v:Nat)(same:Bool)(w:World)(e:Ending)(w':World):Prop:=∃g,e=.returned (.tuple #[.pointer (some ⟨g,0,none⟩),.bool same])/\w.heap.size<=g/\IntAt w' g 0 (v:Int)/\Below w.heap.size w w'
theorem q8H(a b:Nat):q7v (a:Int) (b:Int)=q1G a b:=by rw[q7u (by omega) (by omega),Int.natAbs_natCast,Int.natAbs_natCast]
theorem qaD{neg:Bool}{mode a b:Nat}(h:a%b≠0):rnd neg mode a b=if q3B neg mode (decide (a/b%2=1)) (q1G (2*(a%b)) b) then a/b+1 else a/b:=if_neg h
structure BetBox(w:World)(g:Nat)(neg odd:Bool)(half:Int):Prop where
 c0:w.cell? ⟨g,0,none⟩=some (.bool neg)
 c1:w.cell? ⟨g,1,none⟩=some (.bool odd)
 c2:w.cell? ⟨g,2,none⟩=some (.int .i64 half)
 lt:g<w.heap.size
theorem BetBox.made(w:World)(neg odd:Bool)(half:Int)(t:TypeId):BetBox (w.alloc (.cells #[.bool neg,.bool odd,.int .i64 half] t)) w.heap.size neg odd half:=by
 constructor<;>first|(simp only[World.cell?];rw[heap_alloc_new];rfl)|simp
theorem BetBox.below{w w':World}{g:Nat}{neg odd:Bool}{half:Int}(h:BetBox w g neg odd half)(hb:Below w.heap.size w w'):BetBox w' g neg odd half:=
 ⟨(hb.cell (p:=⟨g,0,none⟩) h.lt).trans h.c0,(hb.cell (p:=⟨g,1,none⟩) h.lt).trans h.c1,(hb.cell (p:=⟨g,2,none⟩) h.lt).trans h.c2,Nat.lt_of_lt_of_le h.lt hb.size⟩
theorem q5M(gx ox gy oy a b:Nat)(neg:Bool)(mode:Nat)(w:World)(hx:IntAt w gx ox (a:Int))(hy:IntAt w gy oy (b:Int))(hb:0<b)(sa:Sz a)(sb:Sz b)(h0:a%b=0):
  Calls Tryz.prog 148 #[.pointer (some ⟨gx,ox,none⟩),.pointer (some ⟨gy,oy,none⟩),.bool neg,.int .u8 (mode:Int)] w (q7B (rnd neg mode a b) true w):=by
 have sq:Sz (a/b):=Sz.mono sa (Nat.div_le_self a b);have sr:Sz (a%b):=Sz.mono sb (Nat.le_of_lt (Nat.mod_lt a hb));have a0:=fun(w':World) (g gr:Nat) (h:IntAt w' g 0 0) (hz:IntAt w' gr 0 0) (a8:IntAt w' gx ox a) (a9:IntAt w' gy oy b) (b0:g≠gr)=>A.QuoRem g 0 gx ox gy oy gr 0 0 (a:Int) (b:Int) 0 w' h a8 a9 hz b0 (by omega) (by rw[Int.natAbs_natCast];exact sa)
 have ea:decide ((a:Int)<0)=false:=decide_eq_false (by omega);have eb:decide ((b:Int)<0)=false:=decide_eq_false (by omega);simp only[ea,eb,Int.natAbs_natCast,bne_self_eq_false] at a0;obtain⟨q,hq⟩:=yx (a/b);obtain⟨r,hr⟩:=yx (a%b);simp only[<- hq,<- hr] at a0 sq sr;have b1:=vv a0;have o1:=(Below.refl w.heap.size w).alloc (o:=.cells #[.bool false,.slice none 0 0] 143) lr;have i1:=IntAt.zero w 143;obtain⟨w1,a1⟩:=yx (w.alloc (.cells #[.bool false,.slice none 0 0] 143));rw[<- a1] at o1 i1;have s1:w1.heap.size=w.heap.size+1:=by rw[a1];simp
 have o2:=(Below.refl w1.heap.size w1).alloc (o:=.cells #[.bool false,.slice none 0 0] 143) lr;have i2:=IntAt.zero w1 143;obtain⟨w2,a2⟩:=yx (w1.alloc (.cells #[.bool false,.slice none 0 0] 143));rw[<- a2] at o2 i2;rw[s1] at i2;have b2:Below w.heap.size w w2:=o1.trans (o2.mono (by omega));have s2:w2.heap.size=w.heap.size+2:=by rw[a2];simp;omega
 have b3:=vv (i1.below o2);have b4:=vv i2;have HX:=vv hx;have HY:=vv hy;have b5:=vv (hx.below b2);have b6:=vv (hy.below b2);have b7:=vv b2;have b8:=vv s2;have a3:=hy.lt;have b9:Hid (w2=(w.alloc (.cells #[.bool false,.slice none 0 0] 143)).alloc (.cells #[.bool false,.slice none 0 0] 143)):=vv (by rw[a2,a1]);have c3:=vv a3;have HV:Hid (rnd neg mode a b=q):=vv (by unfold rnd;rw[if_pos h0,hq]);obtain⟨V,hV⟩:=yx (rnd neg mode a b);rw[<- hV] at HV ⊢;have a4:r=0:=by rw[hr];exact h0
 have ts:((r:Int).sign==0)=true:=by rw[a4];rfl
 clear hx hy sa o1 o2 i1 i2 b2 s1 s2 a1 a2 a0 ea eb a3 hV hq hr h0 a4 hb sb sq sr;go_enter Tryz.func148,Tryz.ntmps148
 go_wp2_with fail
 rw[<- b9.o];refine(b1.o w2 w.heap.size (w.heap.size+1) b3.o b4.o b5.o b6.o (by omega)).mono ?_;rintro e w3 ⟨rfl,a5,a6,a7⟩;have c0:=vv (show IntAt w3 w.heap.size 0 (q:Int) from a5);have c1:=vv (show IntAt w3 (w.heap.size+1) 0 (r:Int) from a6);have c2:Hid (Below w.heap.size w w3):=vv (a7.below b7.o (by have:=b8.o;omega) (by intro p hp;simp at hp;rcases hp with rfl|rfl<;>simp));clear a5 a6 a7;go_wp2_with fail
 refine(A.Sign (w.heap.size+1) 0 (r:Int) w3 c1.o).mono ?_;rintro e w' ⟨rfl,rfl⟩;go_wp2;go_ret2
 exact⟨w.heap.size,rfl,lr,by rw[HV.o];exact c0.o,c2.o⟩
theorem q7M(mode:Nat)(hm:mode<=4)(gx ox gy oy a b:Nat)(neg:Bool)(w:World)(hx:IntAt w gx ox (a:Int))(hy:IntAt w gy oy (b:Int))(hb:0<b)(sa:Sz a)(sb:Sz b)(h0:a%b≠0):
  Calls Tryz.prog 148 #[.pointer (some ⟨gx,ox,none⟩),.pointer (some ⟨gy,oy,none⟩),.bool neg,.int .u8 (mode:Int)] w (q7B (rnd neg mode a b) false w):=by
 have sq:Sz (a/b):=Sz.mono sa (Nat.div_le_self a b);have sr:Sz (a%b):=Sz.mono sb (Nat.le_of_lt (Nat.mod_lt a hb));have b1:=fun(w':World) (g gr:Nat) (h:IntAt w' g 0 0) (hz:IntAt w' gr 0 0) (e0:IntAt w' gx ox a) (e1:IntAt w' gy oy b) (e2:g≠gr)=>A.QuoRem g 0 gx ox gy oy gr 0 0 (a:Int) (b:Int) 0 w' h e0 e1 hz e2 (by omega) (by rw[Int.natAbs_natCast];exact sa)
 have ea:decide ((a:Int)<0)=false:=decide_eq_false (by omega);have eb:decide ((b:Int)<0)=false:=decide_eq_false (by omega);simp only[ea,eb,Int.natAbs_natCast,bne_self_eq_false] at b1;obtain⟨q,hq⟩:=yx (a/b);obtain⟨r,hr⟩:=yx (a%b);simp only[<- hq,<- hr] at b1 sq sr;have e3:=vv b1;have o1:=(Below.refl w.heap.size w).alloc (o:=.cells #[.bool false,.slice none 0 0] 143) lr;have i1:=IntAt.zero w 143;obtain⟨w1,b3⟩:=yx (w.alloc (.cells #[.bool false,.slice none 0 0] 143));rw[<- b3] at o1 i1;have s1:w1.heap.size=w.heap.size+1:=by rw[b3];simp
 have o2:=(Below.refl w1.heap.size w1).alloc (o:=.cells #[.bool false,.slice none 0 0] 143) lr;have i2:=IntAt.zero w1 143;obtain⟨w2,b4⟩:=yx (w1.alloc (.cells #[.bool false,.slice none 0 0] 143));rw[<- b4] at o2 i2;rw[s1] at i2;have b2:Below w.heap.size w w2:=o1.trans (o2.mono (by omega));have s2:w2.heap.size=w.heap.size+2:=by rw[b4];simp;omega
 have e4:=vv (i1.below o2);have e5:=vv i2;have HX:=vv hx;have HY:=vv hy;have e6:=vv (hx.below b2);have e7:=vv (hy.below b2);have e8:=vv b2;have e9:=vv s2;have c3:=hy.lt;have f0:Hid (w2=(w.alloc (.cells #[.bool false,.slice none 0 0] 143)).alloc (.cells #[.bool false,.slice none 0 0] 143)):=vv (by rw[b4,b3]);have i8:=vv c3;have a8:=qaD (neg:=neg) (mode:=mode) h0;rw[<- hq,<- hr] at a8;have f1:0<r:=by omega
 have ts:((r:Int).sign==0)=false:=by rw[Int.sign_eq_one_of_pos (by omega)];rfl
 obtain⟨odd,a5⟩:=yx (decide (q%2=1));obtain⟨a0,a2⟩:=yx (q1G (2*r) b);obtain⟨mo,a6⟩:=yx (q3B neg mode odd a0);rw[<- a5,<- a2,<- a6] at a8;obtain⟨V,hV⟩:=yx (rnd neg mode a b);rw[<- hV] at a8 ⊢;have HV:=vv a8;have f2:=vv fun w' (h:IntAt w' (w.heap.size+1) 0 (r:Int))=>A.Lsh (w.heap.size+1) 0 (w.heap.size+1) 0 1 (r:Int) (r:Int) w' h h (by rw[Int.natAbs_natCast];exact sr) (by omega)
 have c4:=vv fun w' (h:IntAt w' (w.heap.size+1) 0 ((r:Int)*2^1)) (h':IntAt w' gy oy (b:Int))=>A.Cmp (w.heap.size+1) 0 gy oy _ _ w' h h'
 have ec:q7v ((r:Int)*2^1) (b:Int)=a0:=by
  have e:(r:Int)*2^1=((2*r:Nat):Int):=by omega
  rw[e,q8H,<- a2]
 simp only[ec] at c4;obtain⟨mi,c5⟩:∃z:Int,z=(mode:Int):=⟨_,rfl⟩;rw[<- c5];have f3:=vv fun(h:mi=0) w'=>(show Calls Tryz.prog 248 #[q7K neg odd a0] w' fun e w''=>e=.returned (.bool mo)/\Below w'.heap.size w' w'' by rw[a6,show mode=0 by omega];exact q3u neg odd a0 w')
 have f4:=vv fun(h:mi=1) w'=>(show Calls Tryz.prog 249 #[q7K neg odd a0] w' fun e w''=>e=.returned (.bool mo)/\Below w'.heap.size w' w'' by rw[a6,show mode=1 by omega];exact qcl neg odd a0 w')
 have f5:=vv fun(h:mi=2) w'=>(show Calls Tryz.prog 250 #[q7K neg odd a0] w' fun e w''=>e=.returned (.bool mo)/\Below w'.heap.size w' w'' by rw[a6,show mode=2 by omega];exact zero neg odd a0 w')
 have f6:=vv fun(h:mi=3) w'=>(show Calls Tryz.prog 251 #[q7K neg odd a0] w' fun e w''=>e=.returned (.bool mo)/\Below w'.heap.size w' w'' by rw[a6,show mode=3 by omega];exact up neg odd a0 w')
 have f7:=vv fun(h:mi=4) w'=>(show Calls Tryz.prog 252 #[q7K neg odd a0] w' fun e w''=>e=.returned (.bool mo)/\Below w'.heap.size w' w'' by rw[a6,show mode=4 by omega];exact qbg neg odd a0 w')
 have f8:Hid (mi=0\/mi=1\/mi=2\/mi=3\/mi=4):=vv (by omega);have f9:Hid (((q:Int)%2==1)=odd):=vv (by
  rw[a5];by_cases h:q%2=1
  ·rw[decide_eq_true h,beq_iff_eq];omega
  ·rw[decide_eq_false h,beq_eq_false_iff_ne];omega)
 have g0:=vv fun w' g1 (h:IntAt w' w.heap.size 0 (q:Int)) (h1:IntAt w' g1 0 1)=>A.Add w.heap.size 0 w.heap.size 0 g1 0 (q:Int) (q:Int) 1 w' h h h1 (by rw[Int.natAbs_natCast];exact sq) (by unfold Sz;decide)
 clear hx hy sa o1 o2 i1 i2 b2 s1 s2 b3 b4 b1 ea eb c3 hV hq hr h0 f1 hb sb sq sr a5 a2 a6 ec a8 c5 hm;go_enter Tryz.func148,Tryz.ntmps148
 go_wp2_with fail
 rw[<- f0.o];refine(e3.o w2 w.heap.size (w.heap.size+1) e4.o e5.o e6.o e7.o (by omega)).mono ?_;rintro e w3 ⟨rfl,c6,c7,c8⟩;have c9:=vv (show IntAt w3 w.heap.size 0 (q:Int) from c6);have b6:=vv (show IntAt w3 (w.heap.size+1) 0 (r:Int) from c7);have d0:Hid (Below w.heap.size w w3):=vv (c8.below e8.o (by have:=e9.o;omega) (by intro p hp;simp at hp;rcases hp with rfl|rfl<;>simp));clear c6 c7 c8;go_wp2_with fail
 refine(A.Sign (w.heap.size+1) 0 (r:Int) w3 b6.o).mono ?_;rintro e w' ⟨rfl,rfl⟩;go_wp2_with fail
 refine(A.Bit0 w.heap.size 0 (q:Int) w3 c9.o).mono ?_;rintro e w' ⟨rfl,rfl⟩;go_wp2_with fail
 refine(f2.o _ b6.o).mono ?_;rintro e w4 ⟨rfl,b7,d1⟩;have b8:=d1.fs b6.o b7;have g2:=vv b7;have g3:=vv (c9.o.fs1 b8 (by omega));have d2:=vv (b8.below d0.o (by have:=d0.o.size;omega) (by intro p hp;simp at hp;rw[hp];simp));have g4:=vv (HY.o.below d2.o);clear b7 d1 b8;go_wp2_with fail
 refine(c4.o _ g2.o g4.o).mono ?_;rintro e w5 ⟨rfl,b9⟩;have g5:=vv (g3.o.below b9);have g7:=vn d2 b9;clear b9;go_wp2_with fail
 rw[f9.o];have o6:=(Below.refl w5.heap.size w5).alloc (o:=.cells #[.bool neg,.bool odd,.int .i64 a0] 249) lr;have x6:=BetBox.made w5 neg odd a0 249;obtain⟨w6,d3⟩:=yx (w5.alloc (.cells #[.bool neg,.bool odd,.int .i64 a0] 249));rw[<- d3] at o6 x6 ⊢;have a1:=vv x6;have g8:=vv (g5.o.below o6);have i0:=vn g7 o6;clear o6 x6 d3;obtain⟨g6,d4⟩:=yx (w5.heap.size);rw[<- d4] at a1 ⊢;clear d4;rcases f8.o with rfl|rfl|rfl|rfl|rfl;all_goals
  refine q01 (fun w'=>w'.cell? ⟨g6,0,none⟩=some (.bool neg)/\w'.cell? ⟨g6,1,none⟩=some (.bool odd)/\w'.cell? ⟨g6,2,none⟩=some (.int .i64 a0)) 5
   (.still 1 (.still 3 (.one 0 (.still 2 (.one 4 .done))))) (by kernel_rfl) (by kernel_rfl) (fun _ _ d _ _ h=>by cases d<;>exact h) ⟨a1.o.c0,a1.o.c1,a1.o.c2⟩ (fun hS0=>?_)
  iterate 2
   refine q00 (v:=?_) rfl (by rfl) ?_ ?_;rotate_left
   ·intro w i3;go_simp;with_reducible rfl
   simp only[Act.put,sa,sb,sc]
  refine q06 rfl (by rfl) (fun K hK=>?_);go_simp;refine(qbq _).mono ?_;rintro e w7 ⟨rfl,a3⟩;have a3:Below w6.heap.size w6 w7:=⟨a3.os,a3.tape,a3.output,a3.size,a3.block⟩;have a1:=vv (a1.o.below a3);have i4:=vv (g8.o.below a3);have i5:=vn i0 a3;clear a3;go_wp2_with fail
  refine hK.out _ _ ⟨a1.o.c0,a1.o.c1,a1.o.c2⟩ (fun a4=>?_);clear hK
  iterate 1
   refine q00 (v:=?_) rfl (by rfl) ?_ ?_;rotate_left
   ·intro w i3;go_simp;with_reducible rfl
   simp only[Act.put,sa,sb,sc]
  refine q06 rfl (by rfl) (fun K hK=>?_);go_simp;first|refine(f3.o (by trivial) _).mono ?_|refine(f4.o (by trivial) _).mono ?_|refine(f5.o (by trivial) _).mono ?_|refine(f6.o (by trivial) _).mono ?_|refine(f7.o (by trivial) _).mono ?_
  rintro e w8 ⟨rfl,b5⟩;have a1:=vv (a1.o.below b5);have d5:=vv (i4.o.below b5);have d6:=vn i5 b5;clear b5;go_wp2_with fail
  refine hK.out _ _ ⟨a1.o.c0,a1.o.c1,a1.o.c2⟩ (fun a4=>?_);clear hK;refine q0L rfl ?_;clear a4 hS0;cases mo
  ·go_wp2;go_ret2
   exact⟨w.heap.size,rfl,lr,by rw[HV.o];exact d5.o,d6.o⟩
  ·go_wp2_with fail
   refine(A.NewInt 1 _ (by omega) (by omega)).mono ?_;rintro e w9 ⟨g9,rfl,i6,d7,c0⟩;have d8:=vv (d5.o.below c0);have i7:=vv d7;have d9:=vn d6 c0;clear i6 d7 c0;go_wp2_with fail
   refine(g0.o _ g9 d8.o i7.o).mono ?_;rintro e w10 ⟨rfl,a7,a9⟩;have b0:=a9.fs d8.o a7;have c1:=vv a7;have c2:=vv (b0.below d9.o (by have:=d9.o.size;omega) (by intro p hp;simp at hp;rw[hp];simp));clear a7 a9 b0;go_wp2;go_ret2
   exact⟨w.heap.size,rfl,lr,by rw[HV.o];exact c1.o,c2.o⟩
theorem whole(gx ox gy oy a b:Nat)(neg:Bool)(mode:Nat)(w:World)(hx:IntAt w gx ox (a:Int))(hy:IntAt w gy oy (b:Int))(hb:0<b)(sa:Sz a)(sb:Sz b)(hm:mode<=4):
  Calls Tryz.prog 148 #[.pointer (some ⟨gx,ox,none⟩),.pointer (some ⟨gy,oy,none⟩),.bool neg,.int .u8 (mode:Int)] w (q7B (rnd neg mode a b) (decide (a%b=0)) w):=by
 by_cases h0:a%b=0
 ·rw[decide_eq_true h0];exact q5M gx ox gy oy a b neg mode w hx hy hb sa sb h0
 ·rw[decide_eq_false h0];exact q7M mode hm gx ox gy oy a b neg w hx hy hb sa sb h0
abbrev q5Y(gn on gd od:Nat):Value:=.agg #[.pointer (some ⟨gn,on,none⟩),.pointer (some ⟨gd,od,none⟩)]
structure NbBox(w:World)(g gn on gd od:Nat):Prop where
 c0:w.cell? ⟨g,0,none⟩=some (.pointer (some ⟨gn,on,none⟩))
 c1:w.cell? ⟨g,1,none⟩=some (.pointer (some ⟨gd,od,none⟩))
 lt:g<w.heap.size
theorem NbBox.made(w:World)(gn on gd od:Nat)(t:TypeId):NbBox (w.alloc (.cells #[.pointer (some ⟨gn,on,none⟩),.pointer (some ⟨gd,od,none⟩)] t)) w.heap.size gn on gd od:=by
 constructor<;>first|(simp only[World.cell?];rw[heap_alloc_new];rfl)|simp
theorem NbBox.below{w w':World}{g gn on gd od:Nat}(h:NbBox w g gn on gd od)(hb:Below w.heap.size w w'):NbBox w' g gn on gd od:=
 ⟨(hb.cell (p:=⟨g,0,none⟩) h.lt).trans h.c0,(hb.cell (p:=⟨g,1,none⟩) h.lt).trans h.c1,Nat.lt_of_lt_of_le h.lt hb.size⟩
theorem NbBox.drew{w:World}{g gn on gd od:Nat}(h:NbBox w g gn on gd od):NbBox w.drew g gn on gd od:=⟨h.c0,h.c1,h.lt⟩
theorem Fs.cell0{l:List Ob}{w w':World}{k j:Nat}{v:Value}(hf:Fs l w w')(h:w.cell? ⟨k,j,none⟩=some v)(hk:k<w.heap.size)(hne:∀p∈l,p.1≠k):w'.cell? ⟨k,j,none⟩=some v:=
 (hf.cell k j hk (fun p hp e=>absurd e (hne p hp))).trans h
theorem NbBox.fs{l:List Ob}{w w':World}{g gn on gd od:Nat}(h:NbBox w g gn on gd od)(hf:Fs l w w')(hne:∀p∈l,p.1≠g):NbBox w' g gn on gd od:=
 ⟨Fs.cell0 hf h.c0 h.lt hne,Fs.cell0 hf h.c1 h.lt hne,Nat.lt_of_lt_of_le h.lt hf.size⟩
def q5g(x y:Nat)(w:World)(e:Ending)(w':World):Prop:=∃g1 o1 g2 o2,e=.returned (.tuple #[.pointer (some ⟨g1,o1,none⟩),.pointer (some ⟨g2,o2,none⟩)])/\IntAt w' g1 o1 (x:Int)/\IntAt w' g2 o2 (y:Int)/\Below w.heap.size w w'
theorem q7T(gn on gd od a b k:Nat)(w:World)(hn:IntAt w gn on (a:Int))(hd:IntAt w gd od (b:Int))(sa:Sz a)(hk:(k:Int)<30000000000000):
  Calls Tryz.prog 52 #[q5Y gn on gd od,.int .i64 (k:Int)] w (q5g (a*2^k) b w):=by
 have o0:=(Below.refl w.heap.size w).alloc (o:=.cells #[.pointer (some ⟨gn,on,none⟩),.pointer (some ⟨gd,od,none⟩)] 101) lr;have x0:=NbBox.made w gn on gd od 101;obtain⟨w0,a2⟩:=yx (w.alloc (.cells #[.pointer (some ⟨gn,on,none⟩),.pointer (some ⟨gd,od,none⟩)] 101));rw[<- a2] at o0 x0;have HX:=vv x0;have HB:=vv o0;have a5:=vv a2;have HN:=vv (hn.below o0);have HD:=vv (hd.below o0);have HL:=vv fun w' g (h:IntAt w' g 0 0) (h':IntAt w' gn on (a:Int))=>A.Lsh g 0 gn on k 0 (a:Int) w' h h' (by rw[Int.natAbs_natCast];exact sa) (by omega)
 have HP:Hid ((a:Int)*2^k=((a*2^k:Nat):Int)):=vv (by rw[Int.natCast_mul,Int.natCast_pow];rfl);have d0:decide ((0:Int)<=(k:Int))=true:=decide_eq_true (by omega);have a6:Hid (IntKind.u64.wrap (k:Int)=(k:Int)):=vv (by rw[IntKind.wrap_u64];omega);clear o0 x0 a2 hn hd sa;go_enter Tryz.func52,Tryz.ntmps52
 go_wp2_with fail
 rw[<- a5.o];refine q01 (fun w'=>w'.cell? ⟨w.heap.size,0,none⟩=some (.pointer (some ⟨gn,on,none⟩))/\w'.cell? ⟨w.heap.size,1,none⟩=some (.pointer (some ⟨gd,od,none⟩))) 10
  (.still 1 (.still 2 (.still 3 (.still 4 (.still 6 (.still 7 (.one 0 (.one 5 (.still 8 (.still 9 .done)))))))))) (by kernel_rfl) (by kernel_rfl) (fun _ _ d _ _ h=>by cases d<;>exact h) ⟨HX.o.c0,HX.o.c1⟩ (fun hS0=>?_)
 obtain⟨wc,a0⟩:=yx (w0.drew);have HX:Hid (NbBox wc w.heap.size gn on gd od):=vv (by rw[a0];exact HX.o.drew);have HB:Hid (Below w.heap.size w wc):=vv (by rw[a0];exact q04 HB.o);have HN:Hid (IntAt wc gn on (a:Int)):=vv (by rw[a0];exact HN.o.drew);have HD:Hid (IntAt wc gd od (b:Int)):=vv (by rw[a0];exact HD.o.drew);rw[<- a0] at hS0 ⊢;clear a0
 iterate 6
  refine q00 (v:=?_) rfl (by rfl) ?_ ?_;rotate_left
  ·intro w a7;go_simp;with_reducible rfl
  simp only[Act.put,sa,sb,sc]
 refine q06 rfl (by rfl) (fun K hK=>?_);go_simp;have hz:=IntAt.zero wc 143;have hb:=(Below.refl wc.heap.size wc).alloc (o:=.cells #[.bool false,.slice none 0 0] 143) lr;obtain⟨wd,a4⟩:=yx (wc.alloc (.cells #[.bool false,.slice none 0 0] 143));rw[<- a4] at hz hb ⊢;have HZ:=vv hz;have a8:=vv HD.o.lt;have a3:=HX.o.lt;have HX:=vv (HX.o.below hb);have HN:=vv (HN.o.below hb);have HD:=vv (HD.o.below hb);have b1:=a8.o;have a9:=vv HB.o;have b0:=vv a3;have HB:=vn HB hb;clear hz hb a4 hS0;refine hK.out _ _ ⟨HX.o.c0,HX.o.c1⟩ (fun a1=>?_);clear hK;refine q06 rfl (by rfl) (fun K hK=>?_);go_simp;rw[a6.o];refine(HL.o wd wc.heap.size HZ.o HN.o).mono ?_;rintro e we ⟨rfl,hi,hf⟩;rw[HP.o] at hi;have hF:=hf.fs HZ.o hi;have HI:=vv hi;have HD:=vv (HD.o.fs1 hF (by omega));have HB:=vv (hF.below HB.o (by have:=HB.o.size;omega) (by intro p hp;simp at hp;rw[hp];exact a9.o.size));have HX:=vv (HX.o.fs hF (by intro p hp;simp at hp;rw[hp];have:=b0.o;show wc.heap.size≠w.heap.size;omega));clear hi hf hF;go_wp2_with fail
 refine hK.out _ _ ⟨HX.o.c0,HX.o.c1⟩ (fun a1=>?_);clear hK
 iterate 2
  refine q00 (v:=?_) rfl (by rfl) ?_ ?_;rotate_left
  ·intro w a7;go_simp;with_reducible rfl
  simp only[Act.put,sa,sb,sc]
 refine q0L rfl ?_;go_wp2;go_ret2
 exact⟨wc.heap.size,0,gd,od,rfl,HI.o,HD.o,HB.o⟩
theorem q5P(gn on gd od a b k:Nat)(w:World)(hn:IntAt w gn on (a:Int))(hd:IntAt w gd od (b:Int))(sb:Sz b)(hk0:0<k)(e:Int)(he:-e=(k:Int))(hk:(k:Int)<30000000000000):
  Calls Tryz.prog 52 #[q5Y gn on gd od,.int .i64 e] w (q5g a (b*2^k) w):=by
 have o0:=(Below.refl w.heap.size w).alloc (o:=.cells #[.pointer (some ⟨gn,on,none⟩),.pointer (some ⟨gd,od,none⟩)] 101) lr;have x0:=NbBox.made w gn on gd od 101;obtain⟨w0,a2⟩:=yx (w.alloc (.cells #[.pointer (some ⟨gn,on,none⟩),.pointer (some ⟨gd,od,none⟩)] 101));rw[<- a2] at o0 x0;have HX:=vv x0;have HB:=vv o0;have a5:=vv a2;have HN:=vv (hn.below o0);have HD:=vv (hd.below o0);have HL:=vv fun w' g (h:IntAt w' g 0 0) (h':IntAt w' gd od (b:Int))=>A.Lsh g 0 gd od k 0 (b:Int) w' h h' (by rw[Int.natAbs_natCast];exact sb) (by omega)
 have HP:Hid ((b:Int)*2^k=((b*2^k:Nat):Int)):=vv (by rw[Int.natCast_mul,Int.natCast_pow];rfl);have d0:decide ((0:Int)<=e)=false:=decide_eq_false (by omega);have a6:Hid (IntKind.u64.wrap (IntKind.i64.wrap (k:Int))=(k:Int)):=vv (by rw[IntWalk.i64_in _ (by omega),IntKind.wrap_u64];omega);have b1:e<=0:=by omega
 have b2:-30000000000000<=e:=by omega
 clear o0 x0 a2 hn hd sb hk0;go_enter Tryz.func52,Tryz.ntmps52
 go_wp2_with fail
 rw[<- a5.o];refine q01 (fun w'=>w'.cell? ⟨w.heap.size,0,none⟩=some (.pointer (some ⟨gn,on,none⟩))/\w'.cell? ⟨w.heap.size,1,none⟩=some (.pointer (some ⟨gd,od,none⟩))) 11
  (.still 0 (.still 1 (.still 3 (.still 4 (.still 5 (.still 6 (.still 7 (.one 2 (.one 8 (.still 9 (.still 10 .done))))))))))) (by kernel_rfl) (by kernel_rfl) (fun _ _ d _ _ h=>by cases d<;>exact h) ⟨HX.o.c0,HX.o.c1⟩ (fun hS0=>?_)
 obtain⟨wc,a0⟩:=yx (w0.drew);have HX:Hid (NbBox wc w.heap.size gn on gd od):=vv (by rw[a0];exact HX.o.drew);have HB:Hid (Below w.heap.size w wc):=vv (by rw[a0];exact q04 HB.o);have HN:Hid (IntAt wc gn on (a:Int)):=vv (by rw[a0];exact HN.o.drew);have HD:Hid (IntAt wc gd od (b:Int)):=vv (by rw[a0];exact HD.o.drew);rw[<- a0] at hS0 ⊢;clear a0
 iterate 7
  refine q00 (v:=?_) rfl (by rfl) ?_ ?_;rotate_left
  ·intro w a7;go_simp;with_reducible rfl
  simp only[Act.put,sa,sb,sc]
 refine q06 rfl (by rfl) (fun K hK=>?_);go_simp;have hz:=IntAt.zero wc 143;have hb:=(Below.refl wc.heap.size wc).alloc (o:=.cells #[.bool false,.slice none 0 0] 143) lr;obtain⟨wd,a4⟩:=yx (wc.alloc (.cells #[.bool false,.slice none 0 0] 143));rw[<- a4] at hz hb ⊢;have HZ:=vv hz;have a8:=vv HN.o.lt;have a3:=HX.o.lt;have HX:=vv (HX.o.below hb);have HN:=vv (HN.o.below hb);have HD:=vv (HD.o.below hb);have b3:=a8.o;have a9:=vv HB.o;have b0:=vv a3;have HB:=vn HB hb;clear hz hb a4 hS0;refine hK.out _ _ ⟨HX.o.c0,HX.o.c1⟩ (fun a1=>?_);clear hK;refine q06 rfl (by rfl) (fun K hK=>?_);go_simp;rw[a6.o];refine(HL.o wd wc.heap.size HZ.o HD.o).mono ?_;rintro e' we ⟨rfl,hi,hf⟩;rw[HP.o] at hi;have hF:=hf.fs HZ.o hi;have HI:=vv hi;have HN:=vv (HN.o.fs1 hF (by omega));have HB:=vv (hF.below HB.o (by have:=HB.o.size;omega) (by intro p hp;simp at hp;rw[hp];exact a9.o.size));have HX:=vv (HX.o.fs hF (by intro p hp;simp at hp;rw[hp];have:=b0.o;show wc.heap.size≠w.heap.size;omega));clear hi hf hF;go_wp2_with fail
 refine hK.out _ _ ⟨HX.o.c0,HX.o.c1⟩ (fun a1=>?_);clear hK
 iterate 2
  refine q00 (v:=?_) rfl (by rfl) ?_ ?_;rotate_left
  ·intro w a7;go_simp;with_reducible rfl
  simp only[Act.put,sa,sb,sc]
 refine q0L rfl ?_;go_wp2;go_ret2
 exact⟨gn,on,wc.heap.size,0,rfl,HN.o,HI.o,HB.o⟩
theorem q7U(gn on gd od a b:Nat)(e:Int)(w:World)(hn:IntAt w gn on (a:Int))(hd:IntAt w gd od (b:Int))(sa:Sz a)(sb:Sz b)(h1:e<30000000000000)(h2:-30000000000000<e):
  Calls Tryz.prog 52 #[q5Y gn on gd od,.int .i64 e] w (q5g (a*p2 e) (b*p2 (-e)) w):=by
 by_cases h:0<=e
 ·obtain⟨k,rfl⟩:∃k:Nat,e=k:=⟨e.toNat,by omega⟩;rw[q39,q0z (by omega),Nat.mul_one];exact q7T gn on gd od a b k w hn hd sa h1
 ·obtain⟨k,rfl⟩:∃k:Nat,e = -(k:Int):=⟨(-e).toNat,by omega⟩;rw[q0z (n:=-(k:Int)) (by omega),Nat.mul_one,Int.neg_neg,q39];exact q5P gn on gd od a b k w hn hd sb (by omega) _ (by omega) (by omega)
theorem log(gn on gd od a b:Nat)(w:World)(hn:IntAt w gn on (a:Int))(hd:IntAt w gd od (b:Int))(sa:Sz a)(sb:Sz b):
  Calls Tryz.prog 147 #[q5Y gn on gd od] w fun e w'=>e=.returned (.int .i64 (q21 a b))/\Below w.heap.size w w':=by
 have o0:=(Below.refl w.heap.size w).alloc (o:=.cells #[.pointer (some ⟨gn,on,none⟩),.pointer (some ⟨gd,od,none⟩)] 101) lr;have x0:=NbBox.made w gn on gd od 101;obtain⟨w0,a2⟩:=yx (w.alloc (.cells #[.pointer (some ⟨gn,on,none⟩),.pointer (some ⟨gd,od,none⟩)] 101));rw[<- a2] at o0 x0;have HX:=vv x0;have HB:=vv o0;have b1:=vv a2;have HN:=vv (hn.below o0);have HD:=vv (hd.below o0);have ba:(bl a:Int)<=8796093022208:=by have:=sa;unfold Sz at this;omega
 have bb:(bl b:Int)<=8796093022208:=by have:=sb;unfold Sz at this;omega
 obtain⟨D,hD⟩:∃D:Int,(bl a:Int)-(bl b:Int)=D:=⟨_,rfl⟩;obtain⟨D',b2⟩:∃D':Int,-D=D':=⟨_,rfl⟩;have hL:q21 a b=if a*p2 D'<b*p2 (-D') then D-1 else D:=by unfold q21;rw[hD,<- b2,Int.neg_neg]
 have HL:=vv hL;have a3:=vv fun w' (h:IntAt w' gn on (a:Int))=>A.BitLen gn on (a:Int) w' h
 have a4:=vv fun w' (h:IntAt w' gd od (b:Int))=>A.BitLen gd od (b:Int) w' h
 rw[Int.natAbs_natCast] at a3 a4;have HT:=vv fun w' (h:IntAt w' gn on (a:Int)) (h':IntAt w' gd od (b:Int))=>q7U gn on gd od a b D' w' h h' sa sb (by omega) (by omega)
 obtain⟨X,hX⟩:=yx (a*p2 D');obtain⟨Y,hY⟩:=yx (b*p2 (-D'));simp only[<- hX,<- hY] at HT;rw[<- hX,<- hY] at HL;obtain⟨la,a5⟩:=yx (bl a);obtain⟨lb,a6⟩:=yx (bl b);rw[<- a5,<- a6] at hD;rw[<- a5] at ba a3;rw[<- a6] at bb a4;have b3:Hid (IntKind.i64.wrap D=D):=vv (IntWalk.i64_in _ (by omega));have r1:D<=8796093022208:=by omega
 have r2:-8796093022208<=D:=by omega
 have a7:=vv fun w' g1 o1 g2 o2 (h:IntAt w' g1 o1 (X:Int)) (h':IntAt w' g2 o2 (Y:Int))=>A.Cmp g1 o1 g2 o2 (X:Int) (Y:Int) w' h h'
 obtain⟨z,hz⟩:=yx (q7v (X:Int) (Y:Int));simp only[<- hz] at a7;clear o0 x0 a2 hn hd sa sb hL a5 a6 hX hY;go_enter Tryz.func147,Tryz.ntmps147
 go_wp2_with fail
 rw[<- b1.o];refine q01 (fun w'=>w'.cell? ⟨w.heap.size,0,none⟩=some (.pointer (some ⟨gn,on,none⟩))/\w'.cell? ⟨w.heap.size,1,none⟩=some (.pointer (some ⟨gd,od,none⟩))) 7
  (.still 0 (.still 1 (.still 3 (.still 4 (.one 2 (.one 5 (.still 6 .done))))))) (by kernel_rfl) (by kernel_rfl) (fun _ _ d _ _ h=>by cases d<;>exact h) ⟨HX.o.c0,HX.o.c1⟩ (fun hS0=>?_)
 obtain⟨wc,a1⟩:=yx (w0.drew);have HX:Hid (NbBox wc w.heap.size gn on gd od):=vv (by rw[a1];exact HX.o.drew);have HB:Hid (Below w.heap.size w wc):=vv (by rw[a1];exact q04 HB.o);have HN:Hid (IntAt wc gn on (a:Int)):=vv (by rw[a1];exact HN.o.drew);have HD:Hid (IntAt wc gd od (b:Int)):=vv (by rw[a1];exact HD.o.drew);rw[<- a1] at hS0 ⊢;clear a1
 iterate 4
  refine q00 (v:=?_) rfl (by rfl) ?_ ?_;rotate_left
  ·intro w b4;go_simp;with_reducible rfl
  simp only[Act.put,sa,sb,sc]
 refine q06 rfl (by rfl) (fun K hK=>?_);go_simp;refine(a3.o _ HN.o).mono ?_;rintro e w' ⟨rfl,rfl⟩;go_wp2_with fail
 refine hK.out _ _ ⟨HX.o.c0,HX.o.c1⟩ (fun a0=>?_);clear hK;refine q06 rfl (by rfl) (fun K hK=>?_);go_simp;refine(a4.o _ HD.o).mono ?_;rintro e w' ⟨rfl,rfl⟩;go_wp2_with fail
 refine hK.out _ _ ⟨HX.o.c0,HX.o.c1⟩ (fun a0=>?_);clear hK
 iterate 1
  refine q00 (v:=?_) rfl (by rfl) ?_ ?_;rotate_left
  ·intro w b4;go_simp;with_reducible rfl
  simp only[Act.put,sa,sb,sc]
 rw[b3.o];refine q0d ?_;clear a0 hS0;obtain⟨x0,x1,xl⟩:=HX.o;go_wp2_with fail
 refine(HT.o _ HN.o HD.o).mono ?_;rintro e w2 ⟨g1,o1,g2,o2,rfl,h1,h2,a8⟩;have H1:=vv h1;have H2:=vv h2;have b5:=vn HB a8;clear h1 h2 a8;go_wp2_with fail
 refine(a7.o _ g1 o1 g2 o2 H1.o H2.o).mono ?_;rintro e w3 ⟨rfl,a9⟩;have b0:=vn b5 a9;clear a9 x0 x1 xl;by_cases h:X<Y
 ·have HF:Hid (q21 a b=D-1):=vv (by rw[HL.o,if_pos h]);have dz:decide (z<0)=true:=decide_eq_true (by rw[hz,q46 (by omega)];decide);clear h hz;go_wp2;go_ret
  exact⟨q0A HF.o.symm,b0.o⟩
 ·have HF:Hid (q21 a b=D):=vv (by rw[HL.o,if_neg h]);have dz:decide (z<0)=false:=decide_eq_false (by
   rw[hz];rcases(by omega:(X:Int)=(Y:Int)\/(Y:Int)<(X:Int)) with e|e
   ·rw[e,q3m];decide
   ·rw[q47 e];decide)
  clear h hz;go_wp2;go_ret
  exact⟨q0A HF.o.symm,b0.o⟩
end Go.Proofs.YtcdimmblnbkjjaaGreatDoor.Rnd
namespace Go.Proofs.YtcdimmblnbkjjaaGreatDoor.A
open Go Go.RowKit
theorem q9G(y:Nat)(h:y<4294967296):bits .or .u32 0 (y:Int)=(y:Int):=by
 have:=u32_or_nat 0 y (by omega) h;rw[Nat.zero_or] at this;exact this
theorem Or0(g o gx ox gy oy:Nat)(v:Int)(X Y:Nat)(w:World)(h:IntAt w g o v)(hx:IntAt w gx ox (X:Int))(hy:IntAt w gy oy (Y:Int))(sX:Sz X)(hY:Y<4294967296)(hX:X%4294967296=0):
  Calls Tryz.prog 93 #[.pointer (some ⟨g,o,none⟩),.pointer (some ⟨gx,ox,none⟩),.pointer (some ⟨gy,oy,none⟩)] w (q0v g o ((X+Y:Nat):Int) w):=by
 have HI:=vv h;have b4:=hx.lt;have b0:=hy.lt;obtain⟨A,n,c,h0,h1,hr,hz⟩:=hx.ex;obtain⟨B,m,d,k0,k1,hs,c5⟩:=hy.ex;rw[Int.natAbs_natCast] at hr hs;have e5:m<=1:=hs.bound (k:=1) (by rw[Nat.pow_one];exact hY);have e6:=hr.sz sX;obtain⟨L,hL⟩:∃L,max n m=L:=⟨_,rfl⟩;obtain⟨Z,hZ⟩:=yx (X+Y);rw[<- hZ];have HZ:=vv hZ;have c6:max (n:Int) (m:Int)=(L:Int):=by omega
 have c7:L<=35184372088832:=by omega
 have e7:(L:Int)<=35184372088832:=by omega
 have c8:=mk L c7;have e8:(n:Int)<=274877906944:=by omega
 have HX:=vv hr;have HY:=vv hs;have b1:n<=L:=by omega
 have c9:m<=L:=by omega
 have e9:=vv (show IntAt w.drew g o v from h.drew);have H1:Hid ((w.drew.alloc (.cells (madeCells #[.int .u32 0] L) 34)).heap[w.heap.size]?=some (.cells (q0w (List.replicate L 0)).toArray 34 (0,0))):=vv (Own.made w.drew L 34).heap;have H3:Hid (Below w.heap.size w (w.drew.alloc (.cells (madeCells #[.int .u32 0] L) 34))):=vv ((q04 (Below.refl _ w)).alloc lr _);have H2:=vv (hr.below H3.o rfl);have a5:=vv hr.len;have Hl:Hid ((q0w (toL X)).length=Nat.min n L):=vv (by rw[show Nat.min n L=n from Nat.min_eq_left b1];simp [q0w,a5.o]);have Hf:Hid (0+(q0w (toL X)).length<=(q0w (List.replicate L 0)).length):=vv (by simp [q0w,a5.o];omega);have Hs:Hid ((Tryz.prog.info? 34).map (·.size)=some 1):=vv (by kernel_rfl);have f0:=vv hL;have d0:=vv hX;have a6:=vv hY;have d1:=vv b1;clear hX hz c5 hx hy h hZ hY b1;go_enter Tryz.func93,Tryz.ntmps93
 go_wp2_with fail
 refine q01 (fun w'=>w'.cell? ⟨gx,ox+1,none⟩=some (.slice A n c)/\w'.cell? ⟨gy,oy+1,none⟩=some (.slice B m d)) 12
  (.still 0 (.still 1 (.still 2 (.still 3 (.still 4 (.still 5 (.still 6 (.still 7 (.still 8 (.still 9 (.still 10 (.one 11 .done)))))))))))) (by kernel_rfl) (by kernel_rfl) (fun _ _ d _ _ h=>by cases d<;>exact h) ⟨h1,k1⟩ (fun hS0=>?_)
 iterate 11
  refine q00 (v:=?_) rfl (by rfl) ?_ ?_;rotate_left
  ·intro w f1;go_simp;with_reducible rfl
  simp only[Act.put,sa,sb,sc]
 refine q06 rfl (by rfl) (fun K hK=>?_);go_simp;obtain⟨wn,a7⟩:=yx ((w.alloc (.cells (madeCells #[.int .u32 0] L) 34)).drew);rw[<- a7];have H1:Hid (wn.heap[w.heap.size]?=some (.cells (q0w (List.replicate L 0)).toArray 34 (0,0))):=vv (by rw[a7];exact H1.o);have H3:Hid (Below w.heap.size w wn):=vv (by rw[a7];exact⟨H3.o.os,H3.o.tape,H3.o.output,H3.o.size,H3.o.block⟩);have H2:=vv (hr.below H3.o rfl);clear a7;refine hK.out _ _ ⟨(H3.o.cell (p:=⟨gx,ox+1,none⟩) b4).trans h1,(H3.o.cell (p:=⟨gy,oy+1,none⟩) b0).trans k1⟩ (fun a2=>?_);clear hK;refine q0d ?_;have j1:=(H3.o.cell (p:=⟨gx,ox+1,none⟩) b4).trans h1;go_wp2_with (with_reducible refine wpList_copy_splice (o:=⟨some 27,_,_,_,_,_⟩) rfl _ _ 26 26 rfl 34 Tryz.underlying26 Hs.o _ _ L L n c rfl rfl w.heap.size 0 _ 34 H1.o (q0w (toL X)) Hl.o (fun hp=>⟨rfl,(H2.o.copyPos (d:=none) (e:=none) rfl hp).2⟩) Hf.o (q3S (toL X)) w.heap.size w H3.o lr ?_)
 intro w2 hh hb;have e:splice (q0w (List.replicate L 0)) 0 (q0w (toL X))=q0w (toL X++List.replicate (L-n) 0):=by
  unfold splice q0w;rw[List.take_zero,List.nil_append,Nat.zero_add,List.length_map,a5.o,List.map_replicate,List.drop_replicate,List.map_append,List.map_replicate]
 have a0:Own w2 w.heap.size 34 (toL X++List.replicate (L-n) 0):=Own.of_heap (by have:=hh.o;rw[e] at this;exact this) (q1Z.2 ⟨hr.lim,q1C _⟩);obtain⟨W0,a8⟩:=yx (toL X++List.replicate (L-n) 0);have b2:val W0=X:=by rw[a8,q10,q0h,q03];simp
 have b5:W0.length=L:=by rw[a8,List.length_append,a5.o,List.length_replicate];have:=d1.o;omega
 rw[<- a8] at a0;have a3:nth W0 0=0:=by rw[q3b a0.2,b2,Nat.pow_zero,Nat.div_one];exact d0.o
 have a1:=vv a0;have b6:=vv b2;have a4:=vv b5;have b7:=vv a3;have d2:=vv (HI.o.below (hb.mono lr));have a9:=vv hb;have j2:=(hb.cell (p:=⟨gy,oy+1,none⟩) b0).trans k1;have d3:gy<w2.heap.size:=Nat.lt_of_lt_of_le b0 hb.size;clear e a0 a8 b2 b5 a3 hh hb c8 hS0 a2 j1 H1 H2 H3;rcases(by omega:m=0\/m=1) with rfl|rfl
 ·have b8:Y=0:=by
   have h1:=HY.o.len;have h2:val (toL Y)=val []:=by rw[List.eq_nil_of_length_eq_zero h1]
   rw[q03] at h2;exact h2
  have d4:Hid (Z=X):=vv (by rw[HZ.o,b8];rfl);clear b8;go_wp2;go_loop [33] (fun t=>t=.int .i64 0) (fun _=>0)
  case atStart=>rfl
  case round =>
   subst hrel;go_wp2_with fail
   refine(q1T (some ⟨w.heap.size,0,none⟩) L L W0 w2 (a1.o.rd a4.o.symm lr (by omega))).mono ?_;rintro e w' ⟨m',rfl,rfl,hR⟩;rw[b6.o] at hR;have HR:=vv hR;clear hR;go_wp2_with fail
   refine(q0X g o v (Z:Int) false _ m' L X w2 d2.o HR.o (fun a e=>by cases e;rfl) (by rw[Int.natAbs_natCast,d4.o]) (by rw[Bool.false_and];exact decide_eq_false (by omega))).mono ?_;rintro e w3 ⟨rfl,hI,hF⟩;have d5:=vv hI;have d6:=vv (Fm.trans (Fm.of_below a9.o HI.o.lt) hF);clear hI hF;go_wp2;go_ret
   exact⟨rfl,d5.o,d6.o⟩
 ·have b9:nth (toL Y) 0=Y:=by rw[q0V,Nat.pow_zero,Nat.div_one,Nat.mod_eq_of_lt a6.o]
  obtain⟨b,off,rfl,d7,hc⟩:=hs.cell (by omega);have b3:=hc 0 (by omega);rw[Nat.add_zero,b9] at b3;have d8:w2.cell? ⟨b,off,none⟩=some (.int .u32 (Y:Int)):=(a9.o.cell (p:=⟨b,off,none⟩) d7).trans b3;have c0:0<L:=by have:=c9;omega
  have d9:=a1.o.cell (i:=0) (by rw[a4.o];exact c0);rw[b7.o] at d9;have f2:=a1.o.frozen 0;have f3:=a1.o.lt;have hO:=q9G Y a6.o;have f4:(Y:Int)<=4294967295:=by have:=a6.o;omega
  have c1:=vv (a1.o.set (i:=0) (x:=Y) (z:=(Y:Int)) (by rw[a4.o];exact c0) a6.o rfl);have e0:Hid (val (W0.set 0 Y)=Z):=vv (by
   have h1:=b6.o;have h2:=b7.o;have h3:=a4.o;rcases W0 with _|⟨x,tl⟩
   ·exact absurd h3 (by simp;omega)
   ·have h4:x=0:=h2;rw[h4] at h1;show val (Y::tl)=Z;simp only[val] at h1 ⊢;rw[HZ.o];omega)
  have e1:Hid ((W0.set 0 Y).length=L):=vv (by rw[List.length_set];exact a4.o);have c2:=vv (show IntAt (w2.setCell ⟨w.heap.size,0,none⟩ (.int .u32 (Y:Int))) g o v from HI.o.below (a9.o.setCell lr _));have c3:=vv (a9.o.setCell (p:=⟨w.heap.size,0,none⟩) lr (.int .u32 (Y:Int)));have e2:(0:Int)<(L:Int):=by omega
  clear hc b3 b9 hs;go_wp2;go_loopw [33] (fun t wr=>(t=.int .i64 0/\wr=w2)\/(t=.int .i64 1/\wr=w2.setCell ⟨w.heap.size,0,none⟩ (.int .u32 (Y:Int)))) (fun t _=>1-(intOf t).toNat)
  case atStart=>exact .inl ⟨rfl,rfl⟩
  case round =>
   rcases hrel with ⟨rfl,rfl⟩|⟨rfl,rfl⟩
   ·go_wp2;go_roundw
    case rel=>exact .inr ⟨by go_num,trivial⟩
    case measure=>simp [intOf]
   ·obtain⟨w3,c4⟩:=yx (w2.setCell ⟨w.heap.size,0,none⟩ (.int .u32 (Y:Int)));rw[<- c4] at c1 c2 c3 ⊢;clear c4;go_wp2_with fail
    refine(q1T (some ⟨w.heap.size,0,none⟩) L L (W0.set 0 Y) w3 (c1.o.rd e1.o.symm lr (by omega))).mono ?_;rintro e w' ⟨m',rfl,rfl,hR⟩;rw[e0.o] at hR;have HR:=vv hR;clear hR;go_wp2_with fail
    refine(q0X g o v (Z:Int) false _ m' L Z w3 c2.o HR.o (fun a e=>by cases e;rfl) (by rw[Int.natAbs_natCast]) (by rw[Bool.false_and];exact decide_eq_false (by omega))).mono ?_;rintro e w4 ⟨rfl,hI,hF⟩;have e3:=vv hI;have e4:=vv (Fm.trans (Fm.of_below c3.o HI.o.lt) hF);clear hI hF;go_wp2;go_ret
    exact⟨rfl,e3.o,e4.o⟩
end Go.Proofs.YtcdimmblnbkjjaaGreatDoor.A
namespace Go.Proofs.YtcdimmblnbkjjaaGreatDoor.Rnd
open Go Go.RowKit R5
theorem q4N(xs:List Nat)(k:Nat):val (xs.drop k)*4294967296^k<=val xs:=by
 have h:=q10 (xs.take k) (xs.drop k);rw[List.take_append_drop] at h;rcases Nat.le_total k xs.length with hk|hk
 ·rw[List.length_take,Nat.min_eq_left hk] at h;rw[h,Nat.mul_comm];omega
 ·rw[List.drop_of_length_le hk];simp [val]
theorem q9P(A:Option Addr)(n c N:Nat)(w:World)(hr:Rd w A n c (toL N))(sN:Sz N):
  Calls Tryz.prog 50 #[q4b A n c] w (q3s (N:Int) w):=by
 have e4:=hr.sz sN;have e5:(n:Int)<=274877906944:=by omega
 have b7:=vv sN;have o0:=(Below.refl w.heap.size w).alloc (o:=.cells #[.slice A n c] 28) lr;have c0:(w.alloc (.cells #[.slice A n c] 28)).cell? ⟨w.heap.size,0,none⟩=some (.slice A n c):=by simp only[World.cell?];rw[heap_alloc_new];rfl
 obtain⟨w0,a9⟩:=yx (w.alloc (.cells #[.slice A n c] 28));rw[<- a9] at o0 c0;have s0:w0.heap.size=w.heap.size+1:=by rw[a9];simp
 have o1:=(Below.refl w0.heap.size w0).alloc (o:=.cells #[.bool false,.slice none 0 0] 143) lr;have i1:=IntAt.zero w0 143;obtain⟨w1,b0⟩:=yx (w0.alloc (.cells #[.bool false,.slice none 0 0] 143));rw[<- b0] at o1 i1;rw[s0] at i1;have s1:w1.heap.size=w.heap.size+2:=by rw[b0];simp;omega
 have b1:Below w.heap.size w w1:=o0.trans (o1.mono (by omega));have c1:=(o1.cell (p:=⟨w.heap.size,0,none⟩) (by show w.heap.size<w0.heap.size;omega)).trans c0;have d1:=vv i1;have d2:=vv b1;have d3:=vv c1;have d4:=vv s1;have d5:Hid (w1=(w.alloc (.cells #[.slice A n c] 28)).alloc (.cells #[.bool false,.slice none 0 0] 143)):=vv (by rw[b0,a9]);have HR:=vv hr;have l1:w.heap.size<w1.heap.size:=by omega
 clear o0 c0 a9 s0 o1 i1 b0 s1 b1 hr sN;go_enter Tryz.func50,Tryz.ntmps50
 go_wp2;rw[<- d5.o];clear c1 l1;go_loopw [4] (fun t wr=>∃(z:Int) (k:Nat),t=.int .i64 z/\z+1=k/\k<=n/\IntAt wr (w.heap.size+1) 0 ((val ((toL N).drop k):Nat):Int)/\wr.cell? ⟨w.heap.size,0,none⟩=some (.slice A n c)/\w.heap.size+1<wr.heap.size/\Below w.heap.size w wr) (fun t _=>(intOf t+1).toNat)
 case atStart=>exact⟨_,n,rfl,by omega,lr,by rw[List.drop_of_length_le (by rw[HR.o.len];exact lr)];exact d1.o,d3.o,by have:=d4.o;omega,d2.o⟩
 case round =>
  obtain⟨z,k,rfl,hz,hk,hI,hC,hl,hB⟩:=hrel;have HI:=vv hI;have HC:=vv hC;have HB:=vv hB;rcases Nat.eq_zero_or_pos k with rfl|d6
  ·obtain rfl:z = -1:=by omega
   rw[List.drop_zero,q03] at hI;have HI:=vv hI;clear hz hI hC hB;go_wp2;go_ret
   exact⟨w.heap.size+1,rfl,by omega,HI.o,HB.o⟩
  ·obtain⟨j,rfl⟩:∃j,k=j+1:=⟨k-1,by omega⟩;obtain rfl:z=(j:Int):=by omega
   obtain⟨b,off,rfl,b8,a2⟩:=HR.o.cell (by omega);have hx:=a2 j (by omega);have a4:=vv (fun(w':World) (h:Below w.heap.size w w')=>(h.cell (p:=⟨b,off+j,none⟩) b8).trans hx);have hv:nth (toL N) j<4294967296:=HR.o.nth_lt j;obtain⟨V,hV⟩:=yx (val ((toL N).drop (j+1)));have a0:=q0p (toL N) j;obtain⟨y,hy⟩:=yx (nth (toL N) j);rw[<- hV,<- hy] at a0;rw[<- hy] at hv a4;rw[<- hV] at HI;have b3:=q4N (toL N) (j+1);rw[q03,<- hV] at b3;have b4:4294967296^1<=4294967296^(j+1):=Nat.pow_le_pow_right (by omega) (by omega);rw[Nat.pow_one] at b4;have b9:V*4294967296<=N:=Nat.le_trans (Nat.mul_le_mul_left V b4) b3;have sV:Sz (V*4294967296):=Sz.mono b7.o b9;have sV1:Sz V:=Sz.mono b7.o (by omega);obtain⟨X,hX⟩:=yx (V*4294967296);rw[<- hX] at sV;have c2:=vv fun w' (h:IntAt w' (w.heap.size+1) 0 (V:Int))=>A.Lsh (w.heap.size+1) 0 (w.heap.size+1) 0 32 (V:Int) (V:Int) w' h h (by rw[Int.natAbs_natCast];exact sV1) (by omega)
   have c3:(V:Int)*2^32=(X:Int):=by rw[hX];omega
   simp only[c3] at c2;have d7:=vv fun w' gy (h:IntAt w' (w.heap.size+1) 0 (X:Int)) (h':IntAt w' gy 0 (y:Int))=>A.Or0 (w.heap.size+1) 0 (w.heap.size+1) 0 gy 0 (X:Int) X y w' h h h' sV hv (by omega)
   have d8:=vv fun w'=>A.NewInt (y:Int) w' (by omega) (by omega)
   have d9:Hid (IntKind.i64.wrap (y:Int)=(y:Int)):=vv (IntWalk.i64_in _ (by omega));have a5:Hid (val ((toL N).drop j)=X+y):=vv (by rw[a0,hX];omega);have e6:(j:Int)<(n:Int):=by omega
   have e7:(y:Int)<=4294967295:=by omega
   have e8:b<w.heap.size:=b8;have b2:=vv hl;clear hz hI hC hB a2 hx hV a0 hy b3 b4 b9 sV sV1 hX c3 hv;go_wp2_with fail
   refine q01 (fun w'=>w'.cell? ⟨w.heap.size,0,none⟩=some (.slice (some ⟨b,off,none⟩) n c)/\w'.cell? ⟨b,off+j,none⟩=some (.int .u32 (y:Int))) 12
    (.still 0 (.still 1 (.still 3 (.still 4 (.still 5 (.still 6 (.still 7 (.still 8 (.still 9 (.one 2 (.one 10 (.one 11 .done)))))))))))) (by kernel_rfl) (by kernel_rfl) (fun _ _ d _ _ h=>by cases d<;>exact h) ⟨HC.o,a4.o _ (q04 HB.o)⟩ (fun hS0=>?_)
   obtain⟨wc,a3⟩:=yx (wr.drew);have HI:Hid (IntAt wc (w.heap.size+1) 0 (V:Int)):=vv (by rw[a3];exact HI.o.drew);have HB:Hid (Below w.heap.size w wc):=vv (by rw[a3];exact q04 HB.o);have HC:Hid (wc.cell? ⟨w.heap.size,0,none⟩=some (.slice (some ⟨b,off,none⟩) n c)):=vv (by rw[a3];exact HC.o);have b2:Hid (w.heap.size+1<wc.heap.size):=vv (by rw[a3];exact b2.o);rw[<- a3] at hS0 ⊢;clear a3 hl
   iterate 9
    refine q00 (v:=?_) rfl (by rfl) ?_ ?_;rotate_left
    ·intro w e9;go_simp;with_reducible rfl
    simp only[Act.put,sa,sb,sc]
   refine q06 rfl (by rfl) (fun K hK=>?_);go_simp;refine(c2.o _ HI.o).mono ?_;rintro e w2 ⟨rfl,hi,hf⟩;have hF:=hf.fs HI.o hi;have e0:=vv hi;have c4:=vv (hF.below HB.o (by have:=HB.o.size;omega) (by intro p hp;simp at hp;rw[hp];simp));have c5:=vv (Fs.cell0 hF HC.o (by have:=b2.o;omega) (by intro p hp;simp at hp;rw[hp];simp));have a6:=vv (Nat.lt_of_lt_of_le b2.o hF.size);clear hi hf hF;go_wp2_with fail
   refine hK.out _ _ ⟨c5.o,a4.o _ c4.o⟩ (fun a1=>?_);clear hK;refine q06 rfl (by rfl) (fun K hK=>?_);go_simp;rw[d9.o];refine(d8.o _).mono ?_;rintro e w3 ⟨g3,rfl,e1,c6,a7⟩;have e2:=vv c6;have c7:=vv (e0.o.below a7);have b5:=vn c4 a7;have c8:=vv ((a7.cell (p:=⟨w.heap.size,0,none⟩) (by show w.heap.size<w2.heap.size;have:=a6.o;omega)).trans c5.o);have a8:=vv (Nat.lt_of_lt_of_le a6.o a7.size);clear e1 c6 a7;go_wp2_with fail
   refine hK.out _ _ ⟨c8.o,a4.o _ b5.o⟩ (fun a1=>?_);clear hK;refine q06 rfl (by rfl) (fun K hK=>?_);go_simp;refine(d7.o _ g3 c7.o e2.o).mono ?_;rintro e w4 ⟨rfl,hi,hf⟩;have hF:=hf.fs c7.o hi;have e3:=vv hi;have c9:=vv (hF.below b5.o (by have:=b5.o.size;omega) (by intro p hp;simp at hp;rw[hp];simp));have d0:=vv (Fs.cell0 hF c8.o (by have:=a8.o;omega) (by intro p hp;simp at hp;rw[hp];simp));have b6:=vv (Nat.lt_of_lt_of_le a8.o hF.size);clear hi hf hF;go_wp2_with fail
   refine hK.out _ _ ⟨d0.o,a4.o _ c9.o⟩ (fun a1=>?_);clear hK;refine q0L rfl ?_;clear a1 hS0;go_wp2;go_roundw
   case rel=>exact⟨_,j,rfl,by omega,by omega,by rw[a5.o];exact e3.o,d0.o,b6.o,c9.o⟩
   case measure=>simp [intOf]
end Go.Proofs.YtcdimmblnbkjjaaGreatDoor.Rnd
namespace Go.Proofs.YtcdimmblnbkjjaaGreatDoor.Rtp
open Go Go.RowKit R5
theorem q77(g o:Nat)(u:Int)(w:World)(h:IntAt w g o u)(hb:bl u.natAbs<=524288):
  Calls Tryz.prog 240 #[.pointer (some ⟨g,o,none⟩)] w fun e w'=>e=.returned (.bool false)/\w=w':=by
 have HM:=vv (A.BitLen g o u w h);obtain⟨l,hl⟩:=yx (bl u.natAbs);rw[<- hl] at HM hb;have d0:decide ((524288:Int)<(l:Int))=false:=decide_eq_false (by omega);have a0:(l:Int)<=524288:=by omega
 clear hl hb h;go_enter Tryz.func240,Tryz.ntmps240
 go_wp2_with fail
 refine HM.o.mono ?_;rintro e w' ⟨rfl,rfl⟩;go_wp2;go_ret
 exact⟨rfl,rfl⟩
abbrev qaY(neg:Bool)(n m:Nat):Value:=.agg #[.bool neg,.int .i64 (n:Int),.int .i64 (m:Int)]
theorem qbf(neg:Bool)(A:Option Addr)(n c:Nat)(B':Option Addr)(m d:Nat)(w:World):
  Calls Tryz.prog 188 #[q2F neg A n c B' m d] w fun e w'=>e=.returned (qaY neg n m)/\Below w.heap.size w w':=by
 go_enter Tryz.func188,Tryz.ntmps188
 go_wp2;exact bodyPost_ret (v:=qaY neg n m) (by simp [results,Tryz.results188,go_sem]) rfl ⟨rfl,((Below.refl _ _).alloc lr _).alloc (by simp) _⟩
structure RtCell(w:World)(g:Nat):Prop where
 c0:w.cell? ⟨g,0,none⟩=some (.bool false)
 c1:w.cell? ⟨g,1,none⟩=some (.slice none 0 0)
 c2:w.cell? ⟨g,2,none⟩=some (.slice none 0 0)
 fz:∀j,w.frozen? ⟨g,j,none⟩=false
 lt:g<w.heap.size
theorem RtCell.made(w:World)(t:TypeId):RtCell (w.alloc (.cells #[.bool false,.slice none 0 0,.slice none 0 0] t)) w.heap.size:=by
 constructor<;>first|(simp only[World.cell?];rw[heap_alloc_new];rfl)|(intro j;simp only[World.frozen?];rw[heap_alloc_new];simp)|simp
theorem RtCell.below{w w':World}{g:Nat}(h:RtCell w g)(hb:Below w.heap.size w w'):RtCell w' g:=
 ⟨(hb.cell (p:=⟨g,0,none⟩) h.lt).trans h.c0,(hb.cell (p:=⟨g,1,none⟩) h.lt).trans h.c1,(hb.cell (p:=⟨g,2,none⟩) h.lt).trans h.c2,fun j=>(hb.frozen (p:=⟨g,j,none⟩) h.lt).trans (h.fz j),Nat.lt_of_lt_of_le h.lt hb.size⟩
theorem qbK(g:Nat)(p:Int)(d:Nat)(w:World)(h:RatAt w g p d)(h1:bl (lp p d).natAbs<=524288)(h2:bl (ld p d)<=524288):
  Calls Tryz.prog 187 #[.pointer (some ⟨g,0,none⟩)] w fun e w'=>∃X n Y m,e=.returned (.tuple #[q2F (decide (p<0)) X n n Y m m,.int .i64 0])/\Rd w' X n n (toL (lp p d).natAbs)/\Rd w' Y m m (toL (ld p d))/\Below w.heap.size w w':=by
 obtain⟨w0,a3⟩:=yx (w.alloc (.cells #[.bool false,.slice none 0 0,.slice none 0 0] 93));have b0:Below w.heap.size w w0:=by rw[a3];exact(Below.refl _ w).alloc lr _
 have r0:RtCell w0 w.heap.size:=by rw[a3];exact RtCell.made _ _
 have c5:=vv a3;have HB:=vv b0;have a0:=vv r0;have HH:=vv (h.below b0);have b1:=vv fun w' (h:RatAt w' g p d)=>A.Num g p d w' h
 have b2:=vv fun w' (h:RatAt w' g p d)=>A.Denom g p d w' h
 have b4:=vv fun w' (h:RatAt w' g p d)=>A.RSign g p d w' h
 obtain⟨P,hP⟩:=yx (lp p d);obtain⟨D,hD⟩:=yx (ld p d);rw[<- hP] at b1 h1 ⊢;rw[<- hD] at b2 h2 ⊢;have c6:=vv fun w' g (h:IntAt w' g 0 P)=>q77 g 0 P w' h h1
 have c7:=vv fun w' g (h:IntAt w' g 0 (D:Int))=>q77 g 0 (D:Int) w' h (by rw[Int.natAbs_natCast];exact h2)
 have c8:=vv fun w' g (h:IntAt w' g 0 P)=>q8l g 0 P w' h (by omega)
 have b5:=vv fun w' g (h:IntAt w' g 0 (D:Int))=>q8l g 0 (D:Int) w' h (by rw[Int.natAbs_natCast];omega)
 simp only[Int.natAbs_natCast] at b5;obtain⟨neg,a2⟩:=yx (decide (p<0));obtain⟨sg,b3⟩:=yx (p.sign);have tneg:decide (sg<0)=neg:=by
  rw[a2,b3];rcases Int.lt_trichotomy p 0 with h|h|h
  ·rw[Int.sign_eq_neg_one_of_neg h,decide_eq_true h];rfl
  ·rw[h];rfl
  ·rw[Int.sign_eq_one_of_pos h,decide_eq_false (p:=p<0) (by omega)];rfl
 rw[<- a2];rw[<- b3] at b4;clear h a3 b0 r0 hP hD h1 h2 a2 b3;go_enter Tryz.func187,Tryz.ntmps187
 go_wp2_with fail
 rw[<- c5.o];refine(b1.o _ HH.o).mono ?_;rintro e w1 ⟨g1,rfl,c9,b6,a4⟩;have d0:=vv b6;have HH:=vv (HH.o.below a4);have a0:=vv (a0.o.below a4);have HB:=vn HB a4;clear c9 b6 a4;go_wp2_with fail
 refine(c6.o _ g1 d0.o).mono ?_;rintro e w' ⟨rfl,rfl⟩;go_wp2_with fail
 refine(b2.o _ HH.o).mono ?_;rintro e w2 ⟨g2,rfl,d1,b7,a5⟩;have d2:=vv b7;have HH:=vv (HH.o.below a5);have a0:=vv (a0.o.below a5);have HB:=vn HB a5;clear d1 b7 a5;go_wp2_with fail
 refine(c7.o _ g2 d2.o).mono ?_;rintro e w' ⟨rfl,rfl⟩;go_wp2_with fail
 refine(b4.o _ HH.o).mono ?_;rintro e w' ⟨rfl,rfl⟩;go_wp2_with fail
 refine(b1.o _ HH.o).mono ?_;rintro e w3 ⟨g3,rfl,d3,b8,a6⟩;have d4:=vv b8;have HH:=vv (HH.o.below a6);have a0:=vv (a0.o.below a6);have HB:=vn HB a6;clear d3 b8 a6;go_wp2_with fail
 refine(c8.o _ g3 d4.o).mono ?_;rintro e w4 ⟨X,n,rfl,hX,b9,a7⟩;have d5:Hid (Fr (w.heap.size+1) X):=vv (b9.mono (by have:=a0.o.lt;omega));have HX:=vv hX;have HH:=vv (HH.o.below a7);have a0:=vv (a0.o.below a7);have HB:=vn HB a7;clear hX b9 a7;go_wp2_with fail
 refine(b2.o _ HH.o).mono ?_;rintro e w5 ⟨g5,rfl,d6,c3,a8⟩;have d7:=vv c3;have HX:=vv (HX.o.below a8 rfl);have a0:=vv (a0.o.below a8);have HB:=vn HB a8;clear d6 c3 a8 HH;go_wp2_with fail
 refine(b5.o _ g5 d7.o).mono ?_;rintro e w6 ⟨Y,m,rfl,hY,c4,a9⟩;have d8:Hid (Fr (w.heap.size+1) Y):=vv (c4.mono (by have:=a0.o.lt;omega));have HY:=vv hY;have HX:=vv (HX.o.below a9 rfl);have a0:=vv (a0.o.below a9);have HB:=vn HB a9;clear hY c4 a9;have c0:=a0.o.c0;have c1:=a0.o.c1;have c2:=a0.o.c2;have fz:=a0.o.fz;have lt:=a0.o.lt;obtain⟨w9,a1⟩:=yx (((w6.setCell ⟨w.heap.size,0,none⟩ (.bool neg)).setCell ⟨w.heap.size,1,none⟩ (.slice X n n)).setCell ⟨w.heap.size,2,none⟩ (.slice Y m m));have nX:∀a,X=some a->a.block≠w.heap.size:=fun a e=>by have:=(d5.o a e).1;omega
 have nY:∀a,Y=some a->a.block≠w.heap.size:=fun a e=>by have:=(d8.o a e).1;omega
 have d9:Hid (Rd w9 X n n (toL P.natAbs)):=vv (by rw[a1];exact((HX.o.other _ _ _ nX).other _ _ _ nX).other _ _ _ nX);have e0:Hid (Rd w9 Y m m (toL D)):=vv (by rw[a1];exact((HY.o.other _ _ _ nY).other _ _ _ nY).other _ _ _ nY);have e1:Hid (Below w.heap.size w w9):=vv (by rw[a1];exact((HB.o.setCell lr _).setCell lr _).setCell lr _);have ne:∀i j:Nat,i≠j->(⟨w.heap.size,i,none⟩:Addr)≠⟨w.heap.size,j,none⟩:=fun i j h e=>by injection e with _ e;exact h e
 have k0:w9.cell? ⟨w.heap.size,0,none⟩=some (.bool neg):=by rw[a1,q0i (ne 2 0 (by decide)),q0i (ne 1 0 (by decide))];exact q0u c0
 have k1:w9.cell? ⟨w.heap.size,1,none⟩=some (.slice X n n):=by rw[a1,q0i (ne 2 1 (by decide))];exact q0u ((q0i (ne 0 1 (by decide))).trans c1)
 have k2:w9.cell? ⟨w.heap.size,2,none⟩=some (.slice Y m m):=by rw[a1];exact q0u ((q0i (ne 1 2 (by decide))).trans ((q0i (ne 0 2 (by decide))).trans c2))
 have e2:=vv a1;have K:=vv (And.intro k0 (And.intro k1 k2));clear a1 nX nY ne k0 k1 k2;go_wp2;rw[<- e2.o];obtain⟨k0,k1,k2⟩:=K.o;exact bodyPost_ret (v:=.tuple #[q2F neg X n n Y m m,.int .i64 0]) (by simp [results,Tryz.results187,go_sem,k0,k1,k2]) rfl ⟨X,n,Y,m,rfl,d9.o,e0.o,e1.o⟩
end Go.Proofs.YtcdimmblnbkjjaaGreatDoor.Rtp
