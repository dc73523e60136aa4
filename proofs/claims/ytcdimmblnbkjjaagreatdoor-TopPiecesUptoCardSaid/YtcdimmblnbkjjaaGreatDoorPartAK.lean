/- Lemmas. -/
import Derived.Test.YtcdimmblnbkjjaaGreatDoorPartAI
import Derived.Test.YtcdimmblnbkjjaaGreatDoorPartAB
set_option linter.all false
namespace Go.Proofs.YtcdimmblnbkjjaaGreatDoor
open Go Go.RowKit
theorem q0i{w:World}{a b:Addr}{v:Value}(h:a≠b):(w.setCell a v).cell? b=w.cell? b:=World.cell?_setCell_other w a b v h
theorem q0u{w:World}{a:Addr}{u v:Value}(h:w.cell? a=some u):(w.setCell a v).cell? a=some v:=World.cell?_setCell_same w a v h
structure Fm(g o:Nat)(w w':World):Prop where
 os:w'.os=w.os
 tape:w'.tape=w.tape
 output:w'.output=w.output
 size:w.heap.size<=w'.heap.size
 block:∀k,k<w.heap.size->k≠g->w'.heap[k]?=w.heap[k]?
 cell:∀j,j≠o->j≠o+1->w'.cell? ⟨g,j,none⟩=w.cell? ⟨g,j,none⟩
 frozen:∀j,w'.frozen? ⟨g,j,none⟩=w.frozen? ⟨g,j,none⟩
theorem Fm.trans{g o:Nat}{a b c:World}(h:Fm g o a b)(k:Fm g o b c):Fm g o a c:=
 ⟨k.os.trans h.os,k.tape.trans h.tape,k.output.trans h.output,Nat.le_trans h.size k.size,fun i hi hn=>(k.block i (Nat.lt_of_lt_of_le hi h.size) hn).trans (h.block i hi hn),
  fun j h1 h2=>(k.cell j h1 h2).trans (h.cell j h1 h2),fun j=>(k.frozen j).trans (h.frozen j)⟩
theorem q0R{w w':World}{p:Addr}(h:w'.heap[p.block]?=w.heap[p.block]?):w'.frozen? p=w.frozen? p:=by
 simp only[World.frozen?,h]
theorem Fm.of_below{g o:Nat}{w w':World}(h:Below w.heap.size w w')(hg:g<w.heap.size):Fm g o w w':=
 ⟨h.os,h.tape,h.output,h.size,fun k hk _=>h.block k hk,fun j _ _=>World.cell?_of_block (h.block g hg),fun j=>q0R (p:=⟨g,j,none⟩) (h.block g hg)⟩
theorem Fm.set0{g o j:Nat}(w:World)(v:Value)(hp:j=o\/j=o+1):Fm g o w (w.setCell ⟨g,j,none⟩ v):=
 ⟨rfl,rfl,rfl,by simp [World.setCell],fun k _ hn=>Below.heap_setCell w ⟨g,j,none⟩ v k (show k≠g from hn),fun i h1 h2=>q0i (fun e=>by injection e with _ e;omega),fun i=>World.frozen?_setCell _ _ _ _⟩
theorem Fm.undrew{g o:Nat}{w w':World}(h:Fm g o w.drew w'):Fm g o w w':=⟨h.os,h.tape,h.output,h.size,h.block,h.cell,h.frozen⟩
theorem Fm.below{g o B:Nat}{a w w':World}(hb:Below B a w)(h:Fm g o w w')(hB:B<=w.heap.size)(hg:B<=g):Below B a w':=
 ⟨h.os.trans hb.os,h.tape.trans hb.tape,h.output.trans hb.output,Nat.le_trans hb.size h.size,fun k hk=>(h.block k (by omega) (by omega)).trans (hb.block k hk)⟩
structure IntAt(w:World)(g o:Nat)(v:Int):Prop where
 lt:g<w.heap.size
 head:∃x,w.cell? ⟨g,0,none⟩=some (.bool x)
 fz:∀j,w.frozen? ⟨g,j,none⟩=false
 ex:∃A n c,w.cell? ⟨g,o,none⟩=some (.bool (decide (v<0)))/\w.cell? ⟨g,o+1,none⟩=some (.slice A n c)/\Rd w A n c (toL v.natAbs)/\∀a,A=some a->a.off=0
theorem Rd.apart{w:World}{A:Option Addr}{n c g:Nat}{xs:List Nat}(h:Rd w A n c xs)(h0:∀a,A=some a->a.off=0)(hd:∃x,w.cell? ⟨g,0,none⟩=some (.bool x))(hn:0<n):∀a,A=some a->a.block≠g:=by
 intro a e hg;obtain⟨b,off,e1,_,hc⟩:=h.cell hn;obtain⟨x,hx⟩:=hd;rw[e1] at e;cases e
 have:=h0 _ e1;subst hg;have h2:=hc 0 hn;simp only at this;subst this;rw[hx] at h2;cases h2
theorem Rd.fm{w w':World}{A:Option Addr}{n c g o:Nat}{xs:List Nat}(h:Rd w A n c xs)(hf:Fm g o w w')(hne:0<n->∀a,A=some a->a.block≠g):Rd w' A n c xs:=
 ⟨h.len,h.le,h.sm,h.lim,fun hn=>by
  obtain⟨b,off,e,hlt,hc⟩:=h.cell hn;refine⟨b,off,e,Nat.lt_of_lt_of_le hlt hf.size,fun j hj=>?_⟩;rw[<- hc j hj];exact World.cell?_of_block (a:=⟨b,off+j,none⟩) (hf.block b hlt (hne hn _ e))⟩
theorem Fm.headAt{w w':World}{g o g':Nat}(hf:Fm g o w w')(h':∃x,w'.cell? ⟨g,0,none⟩=some (.bool x))(hlt:g'<w.heap.size)(h:∃x,w.cell? ⟨g',0,none⟩=some (.bool x)):∃x,w'.cell? ⟨g',0,none⟩=some (.bool x):=by
 by_cases e:g'=g
 ·subst e;exact h'
 ·obtain⟨x,hx⟩:=h;exact⟨x,(World.cell?_of_block (a:=⟨g',0,none⟩) (hf.block g' hlt e)).trans hx⟩
theorem IntAt.below{w w':World}{g o:Nat}{v:Int}(h:IntAt w g o v)(hb:Below w.heap.size w w'):IntAt w' g o v:=by
 obtain⟨A,n,c,h0,h1,hr,hz⟩:=h.ex;obtain⟨x,hx⟩:=h.head;exact⟨Nat.lt_of_lt_of_le h.lt hb.size,⟨x,(hb.cell (p:=⟨g,0,none⟩) h.lt).trans hx⟩,fun j=>(q0R (p:=⟨g,j,none⟩) (hb.block g h.lt)).trans (h.fz j),A,n,c,(hb.cell (p:=⟨g,o,none⟩) h.lt).trans h0,(hb.cell (p:=⟨g,o+1,none⟩) h.lt).trans h1,hr.below hb rfl,hz⟩
theorem IntAt.like{w w':World}{g o:Nat}{v:Int}(h:IntAt w g o v)(e:w'.heap=w.heap):IntAt w' g o v:=by
 obtain⟨A,n,c,h0,h1,hr,hz⟩:=h.ex;obtain⟨x,hx⟩:=h.head;exact⟨by rw[e];exact h.lt,⟨x,by rw[<- hx];simp only[World.cell?,e]⟩,fun j=>by rw[<- h.fz j];simp only[World.frozen?,e],A,n,c,by rw[<- h0];simp only[World.cell?,e],by rw[<- h1];simp only[World.cell?,e],hr.like e,hz⟩
theorem IntAt.drew{w:World}{g o:Nat}{v:Int}(h:IntAt w g o v):IntAt w.drew g o v:=h.like rfl
def put(w:World)(g o:Nat)(b:Bool)(s:Value):World:=(w.setCell ⟨g,o+1,none⟩ s).setCell ⟨g,o,none⟩ (.bool b)
theorem q6M(w:World)(g o:Nat)(b:Bool)(s:Value):Fm g o w (put w g o b s):=(Fm.set0 w s (.inr rfl)).trans (Fm.set0 _ _ (.inl rfl))
theorem q86{w:World}{g o:Nat}{v:Int}(h:IntAt w g o v)(b:Bool)(A:Option Addr)(n c:Nat):∃x,(put w g o b (.slice A n c)).cell? ⟨g,0,none⟩=some (.bool x):=by
 obtain⟨A',n',c',h0,h1,hr,hz⟩:=h.ex;obtain⟨x,hx⟩:=h.head;rcases Nat.eq_zero_or_pos o with rfl|ho
 ·exact⟨b,q0u (u:=.bool x) ((q0i (fun e=>by injection e with _ e;omega)).trans hx)⟩
 ·refine⟨x,(q0i (fun e=>by injection e with _ e;omega)).trans ((q0i (fun e=>by injection e with _ e;omega)).trans hx)⟩
theorem IntAt.put{w:World}{g o:Nat}{v u:Int}(h:IntAt w g o v){A:Option Addr}{n c:Nat}{b:Bool}(hb:b=decide (u<0))(hr:Rd w A n c (toL u.natAbs))(hz:∀a,A=some a->a.off=0):IntAt (put w g o b (.slice A n c)) g o u:=by
 obtain⟨A',n',c',h0,h1,a0,a1⟩:=h.ex;have hf:=q6M w g o b (.slice A n c);refine⟨Nat.lt_of_lt_of_le h.lt hf.size,q86 h b A n c,fun j=>by rw[hf.frozen];exact h.fz j,A,n,c,?_,?_,hr.fm hf (hr.apart hz h.head),hz⟩
 ·rw[<- hb];exact q0u (u:=.bool (decide (v<0))) ((q0i (fun e=>by injection e with _ e;omega)).trans h0)
 ·exact(q0i (fun e=>by injection e with _ e;omega)).trans (q0u h1)
theorem q4l{u:Int}{N:Nat}(h:0<=u):decide (u<0)=(false && decide (0<N)):=by rw[Bool.false_and,decide_eq_false_iff_not];omega
theorem q9x(u:Int):decide (u<0)=(decide (u<0) && decide (0<u.natAbs)):=by
 rcases Int.lt_trichotomy u 0 with h|h|h
 ·rw[decide_eq_true h,Bool.true_and,eq_comm,decide_eq_true_iff];omega
 ·subst h;rfl
 ·rw[decide_eq_false (by omega),Bool.false_and]
theorem qay(u:Int):decide (-u<0)=(!decide (u<0) && decide (0<u.natAbs)):=by
 rcases Int.lt_trichotomy u 0 with h|h|h
 ·rw[decide_eq_true h,decide_eq_false (by omega)];rfl
 ·subst h;rfl
 ·rw[decide_eq_false (p:=u<0) (by omega),Bool.not_false,Bool.true_and,decide_eq_true (by omega),decide_eq_true (by omega)]
theorem qaz(u v:Int):decide (u*v<0)=(decide (u<0) != decide (v<0) && decide (0<u.natAbs*v.natAbs)):=by
 rcases Int.lt_trichotomy u 0 with h|h|h
 ·rcases Int.lt_trichotomy v 0 with k|k|k
  ·have:=Int.mul_pos_of_neg_of_neg h k;rw[decide_eq_true h,decide_eq_true k,decide_eq_false (by omega)];rfl
  ·subst k;simp
  ·have:=Int.mul_neg_of_neg_of_pos h k;have h1:0<u.natAbs*v.natAbs:=Nat.mul_pos (by omega) (by omega);rw[decide_eq_true h,decide_eq_false (p:=v<0) (by omega),decide_eq_true this,decide_eq_true h1];rfl
 ·subst h;simp
 ·rcases Int.lt_trichotomy v 0 with k|k|k
  ·have:=Int.mul_neg_of_pos_of_neg h k;have h1:0<u.natAbs*v.natAbs:=Nat.mul_pos (by omega) (by omega);rw[decide_eq_false (p:=u<0) (by omega),decide_eq_true k,decide_eq_true this,decide_eq_true h1];rfl
  ·subst k;simp
  ·have:=Int.mul_pos h k;rw[decide_eq_false (p:=u<0) (by omega),decide_eq_false (p:=v<0) (by omega),decide_eq_false (by omega)];rfl
def q0v(g o:Nat)(u:Int)(w:World)(e:Ending)(w':World):Prop:=
 e=.returned (.pointer (some ⟨g,o,none⟩))/\IntAt w' g o u/\Fm g o w w'
def Sz(n:Nat):Prop:=bl n<=8796093022208
theorem Sz.words{n:Nat}(h:Sz n):words n<=274877906944:=by
 rcases Nat.eq_zero_or_pos n with rfl|hp
 ·simp [q1r]
 ·obtain⟨e,_⟩:=bl_words hp;have:=q4F (bl_words hp).2;unfold Sz at h;omega
theorem Rd.sz{w:World}{A:Option Addr}{n c N:Nat}(h:Rd w A n c (toL N))(hs:Sz N):n<=274877906944:=by
 rw[<- h.words];exact hs.words
def sg(b:Bool)(N:Nat):Int:=if b then -(N:Int) else(N:Int)
theorem q2D(b:Bool)(N:Nat):(sg b N).natAbs=N:=by cases b<;>simp [sg]
theorem q2w(b:Bool)(N:Nat):decide (sg b N<0)=(b && decide (0<N)):=by
 cases b
 ·simp [sg]
 ·simp only[sg,if_true,Bool.true_and];congr 1;apply propext;omega
theorem q9y(u:Int):sg (decide (u<0)) u.natAbs=u:=by
 unfold sg;by_cases h:u<0<;>simp [h]<;>omega
abbrev Ob:=Nat × Nat × Nat
structure Fs(l:List Ob)(w w':World):Prop where
 os:w'.os=w.os
 tape:w'.tape=w.tape
 output:w'.output=w.output
 size:w.heap.size<=w'.heap.size
 block:∀k,k<w.heap.size->(∀p∈l,p.1≠k)->w'.heap[k]?=w.heap[k]?
 cell:∀k j,k<w.heap.size->(∀p∈l,p.1=k->j<p.2.1\/p.2.1+p.2.2<=j)->w'.cell? ⟨k,j,none⟩=w.cell? ⟨k,j,none⟩
 frozen:∀k j,k<w.heap.size->w'.frozen? ⟨k,j,none⟩=w.frozen? ⟨k,j,none⟩
 head:∀k,k<w.heap.size->(∃x,w.cell? ⟨k,0,none⟩=some (.bool x))->∃x,w'.cell? ⟨k,0,none⟩=some (.bool x)
 obj:∀p∈l,p.1<w.heap.size->∃x,w.cell? ⟨p.1,0,none⟩=some (.bool x)
theorem Fs.of_below{w w':World}(l:List Ob)(h:Below w.heap.size w w')(ho:∀p∈l,p.1<w.heap.size->∃x,w.cell? ⟨p.1,0,none⟩=some (.bool x)):Fs l w w':=
 ⟨h.os,h.tape,h.output,h.size,fun k hk _=>h.block k hk,fun k j hk _=>World.cell?_of_block (a:=⟨k,j,none⟩) (h.block k hk),fun k j hk=>q0R (p:=⟨k,j,none⟩) (h.block k hk),
  fun k hk ⟨x,hx⟩=>⟨x,(World.cell?_of_block (a:=⟨k,0,none⟩) (h.block k hk)).trans hx⟩,ho⟩
theorem Fs.of_nil{w w':World}(h:Below w.heap.size w w'):Fs [] w w':=Fs.of_below [] h (fun _ hp=>by cases hp)
theorem Fm.fs{g o:Nat}{w w':World}{u v:Int}(h:Fm g o w w')(hv:IntAt w g o v)(hu:IntAt w' g o u):Fs [(g,o,2)] w w':=
 ⟨h.os,h.tape,h.output,h.size,fun k hk hn=>h.block k hk (fun e=>hn _ (List.mem_singleton.2 rfl) e.symm),
  fun k j hk hn=>by
   by_cases e:k=g
   ·subst e;have:j<o\/o+2<=j:=hn (k,o,2) (List.mem_singleton.2 rfl) rfl;exact h.cell j (by omega) (by omega)
   ·exact World.cell?_of_block (a:=⟨k,j,none⟩) (h.block k hk e),
  fun k j hk=>by
   by_cases e:k=g
   ·subst e;exact h.frozen j
   ·exact q0R (p:=⟨k,j,none⟩) (h.block k hk e),
  fun k hk hx=>h.headAt hu.head hk hx,fun p hp _=>by rw[List.mem_singleton.1 hp];exact hv.head⟩
theorem q0v.fs{g o:Nat}{u v:Int}{w w':World}{e:Ending}(h:q0v g o u w e w')(hv:IntAt w g o v):Fs [(g,o,2)] w w':=h.2.2.fs hv h.2.1
theorem Fs.trans{l l':List Ob}{a b c:World}(h:Fs l a b)(k:Fs l' b c):Fs (l++l') a c:=
 ⟨k.os.trans h.os,k.tape.trans h.tape,k.output.trans h.output,Nat.le_trans h.size k.size,
  fun i hi hn=>(k.block i (Nat.lt_of_lt_of_le hi h.size) (fun p hp=>hn p (List.mem_append_right _ hp))).trans (h.block i hi (fun p hp=>hn p (List.mem_append_left _ hp))),
  fun i j hi hn=>(k.cell i j (Nat.lt_of_lt_of_le hi h.size) (fun p hp=>hn p (List.mem_append_right _ hp))).trans (h.cell i j hi (fun p hp=>hn p (List.mem_append_left _ hp))),
  fun i j hi=>(k.frozen i j (Nat.lt_of_lt_of_le hi h.size)).trans (h.frozen i j hi),
  fun i hi hx=>k.head i (Nat.lt_of_lt_of_le hi h.size) (h.head i hi hx),
  fun p hp hlt=>by
   rcases List.mem_append.1 hp with hp|hp
   ·exact h.obj p hp hlt
   ·by_cases e:∃q∈l,q.1=p.1
    ·obtain⟨q,hq,e⟩:=e;have:=h.obj q hq (by omega)
     rwa [e] at this
    ·obtain⟨x,hx⟩:=k.obj p hp (Nat.lt_of_lt_of_le hlt h.size);exact⟨x,(World.cell?_of_block (a:=⟨p.1,0,none⟩) (h.block p.1 hlt (fun q hq e'=>e ⟨q,hq,e'⟩))).symm.trans hx⟩⟩
theorem Fs.weak{l l':List Ob}{w w':World}(h:Fs l w w')(hsub:∀p∈l,p.1<w.heap.size->p∈l')(ho:∀p∈l',p.1<w.heap.size->∃x,w.cell? ⟨p.1,0,none⟩=some (.bool x)):Fs l' w w':=
 ⟨h.os,h.tape,h.output,h.size,fun k hk hn=>h.block k hk (fun p hp e=>hn p (hsub p hp (by omega)) e),
  fun k j hk hn=>h.cell k j hk (fun p hp e=>hn p (hsub p hp (by omega)) e),h.frozen,h.head,ho⟩
theorem Fs.drop{l l':List Ob}{w w':World}(h:Fs l w w')(hsub:∀p∈l,p.1<w.heap.size->p∈l')(hl:∀p∈l',p∈l):Fs l' w w':=h.weak hsub (fun p hp=>h.obj p (hl p hp))
theorem Fs.below{l:List Ob}{B:Nat}{a w w':World}(h:Fs l w w')(hb:Below B a w)(hB:B<=w.heap.size)(hg:∀p∈l,B<=p.1):Below B a w':=
 ⟨h.os.trans hb.os,h.tape.trans hb.tape,h.output.trans hb.output,Nat.le_trans hb.size h.size,fun k hk=>(h.block k (by omega) (fun p hp e=>by have:=hg p hp;omega)).trans (hb.block k hk)⟩
theorem Rd.fs{w w':World}{l:List Ob}{A:Option Addr}{n c:Nat}{xs:List Nat}(h:Rd w A n c xs)(h0:∀a,A=some a->a.off=0)(hf:Fs l w w'):Rd w' A n c xs:=
 ⟨h.len,h.le,h.sm,h.lim,fun hn=>by
  obtain⟨b,off,e,hlt,hc⟩:=h.cell hn;refine⟨b,off,e,Nat.lt_of_lt_of_le hlt hf.size,fun j hj=>?_⟩;rw[<- hc j hj];refine World.cell?_of_block (a:=⟨b,off+j,none⟩) (hf.block b hlt fun p hp hpb=>?_);obtain⟨x,hx⟩:=hf.obj p hp (by omega);have:=h0 _ e;simp only at this;subst this;have h2:=hc 0 hn;rw[hpb] at hx;rw[hx] at h2;cases h2⟩
theorem Std.fs{l:List Ob}{w w':World}(h:Std w)(hf:Fs l w w'):Std w':=by
 have hb:w'.heap[4]?=w.heap[4]?:=hf.block _ h.2 fun p hp e=>by
  obtain⟨x,hx⟩:=hf.obj p hp (by rw[e];exact h.2);have h2:=h.1 0 (by decide);rw[e] at hx;rw[hx] at h2;cases h2
 exact⟨fun j hj=>by rw[<- h.1 j hj];simp only[World.cell?,hb],Nat.lt_of_lt_of_le h.2 hf.size⟩
theorem IntAt.fs{w w':World}{l:List Ob}{g o:Nat}{v:Int}(h:IntAt w g o v)(hf:Fs l w w')(hne:∀p∈l,p.1=g->o+2<=p.2.1\/p.2.1+p.2.2<=o):IntAt w' g o v:=by
 obtain⟨A,n,c,h0,h1,hr,hz⟩:=h.ex;refine⟨Nat.lt_of_lt_of_le h.lt hf.size,hf.head g h.lt h.head,fun j=>(hf.frozen g j h.lt).trans (h.fz j),A,n,c,?_,?_,hr.fs hz hf,hz⟩
 ·rw[hf.cell g o h.lt fun p hp e=>by have:=hne p hp e;omega];exact h0
 ·rw[hf.cell g (o+1) h.lt fun p hp e=>by have:=hne p hp e;omega];exact h1
theorem IntAt.fs1{w w':World}{g o g' o' k:Nat}{v:Int}(h:IntAt w g o v)(hf:Fs [(g',o',k)] w w')(hne:g'≠g):IntAt w' g o v:=h.fs hf fun p hp e=>by
 rw[List.mem_singleton.1 hp] at e;exact absurd e hne
theorem q80(u:Int)(k:Nat):decide (u*2^k<0)=(decide (u<0) && decide (0<u.natAbs*2^k)):=by
 have hp:(0:Int)<2^k:=Int.pow_pos (by omega);have a0:0<2^k:=Nat.two_pow_pos k;rcases Int.lt_trichotomy u 0 with h|h|h
 ·have:=Int.mul_neg_of_neg_of_pos h hp;have h1:0<u.natAbs*2^k:=Nat.mul_pos (by omega) a0;rw[decide_eq_true this,decide_eq_true h,decide_eq_true h1];rfl
 ·subst h;simp
 ·have:=Int.mul_pos h hp;rw[decide_eq_false (by omega),decide_eq_false (p:=u<0) (by omega)];rfl
def q7v(a b:Int):Int:=if a<b then -1 else if b<a then 1 else 0
theorem q46{a b:Int}(h:a<b):q7v a b = -1:=if_pos h
theorem q47{a b:Int}(h:b<a):q7v a b=1:=by unfold q7v;rw[if_neg (by omega),if_pos h]
theorem q3m(a:Int):q7v a a=0:=by unfold q7v;rw[if_neg (by omega),if_neg (by omega)]
theorem q7u{a b:Int}(h:¬a<0)(k:¬b<0):q7v a b=q1G a.natAbs b.natAbs:=by
 rcases Int.lt_trichotomy a b with h1|h1|h1
 ·rw[q46 h1,q2c (by omega)]
 ·rw[h1,q3m,q5b rfl]
 ·rw[q47 h1,q48 (by omega)]
theorem qa8{a b:Int}(h:a<0)(k:b<0):q7v a b = -q1G a.natAbs b.natAbs:=by
 rcases Int.lt_trichotomy a b with h1|h1|h1
 ·rw[q46 h1,q48 (by omega)]
 ·rw[h1,q3m,q5b rfl];rfl
 ·rw[q47 h1,q2c (by omega)];rfl
theorem q7A(x:Nat)(h:x<4294967296):bits .and .u32 (x:Int) 1=((x%2:Nat):Int):=by
 have:=u32_and_nat x 1 h (by omega);rw[Nat.and_one_is_mod] at this;exact this
theorem q4q(n:Nat):nth (toL n) 0%2=n%2:=by
 have h3:val (toL n)=n:=q03 n
 match hl:toL n with
 | []=>rw[hl] at h3;simp [nth,val] at *;omega
 | a::l=>rw[hl] at h3;simp [nth,val] at *;omega
def q3s(v:Int)(w:World)(e:Ending)(w':World):Prop:=∃g,e=.returned (.pointer (some ⟨g,0,none⟩))/\w.heap.size<=g/\IntAt w' g 0 v/\Below w.heap.size w w'
theorem IntAt.zero(w:World)(t:TypeId):IntAt (w.alloc (.cells #[.bool false,.slice none 0 0] t)) w.heap.size 0 0:=
 ⟨by simp,⟨false,by simp only[World.cell?];rw[heap_alloc_new];rfl⟩,fun j=>by simp only[World.frozen?];rw[heap_alloc_new];simp,none,0,0,by simp only[World.cell?];rw[heap_alloc_new];rfl,by simp only[World.cell?];rw[heap_alloc_new];rfl,by
  have:toL (0:Int).natAbs=[]:=rfl;rw[this];exact Rd.nil _,fun a e=>by cases e⟩
theorem Sz.mono{a b:Nat}(h:Sz b)(hab:a<=b):Sz a:=Nat.le_trans (q7y hab) h
def q8P(g o:Nat)(u:Int)(w:World)(e:Ending)(w':World):Prop:=e=.returned (.pointer (some ⟨g,o,none⟩))/\IntAt w' g o u/\Fs [(g,o,2)] w w'
theorem q0v.f{g o:Nat}{u v:Int}{w w':World}{e:Ending}(h:q0v g o u w e w')(hv:IntAt w g o v):q8P g o u w e w':=⟨h.1,h.2.1,h.fs hv⟩
theorem q8P.below{g o B:Nat}{u:Int}{a w w':World}{e:Ending}(h:q8P g o u w e w')(hb:Below B a w)(hB:B<=w.heap.size)(hg:B<=g):Below B a w':=
 h.2.2.below hb hB (fun p hp=>by rw[List.mem_singleton.1 hp];exact hg)
theorem q8P.after{g o:Nat}{u:Int}{a w w':World}{e:Ending}(h:q8P g o u w e w')(hb:Below a.heap.size a w):Fs [(g,o,2)] a w':=
 ((Fs.of_nil hb).trans h.2.2).drop (fun p hp _=>hp) (fun p hp=>hp)
structure ExpInv(w:World)(gb g1 g2:Nat)(A:Option Addr)(n x y q:Nat)(wr:World):Prop where
 by_:IntAt wr gb 0 0
 o:IntAt wr g1 0 ((x^q:Nat):Int)
 base:IntAt wr g2 0 (x:Int)
 words:Rd wr A n n (toL y)
 off:∀a,A=some a->a.off=0
 bel:Below w.heap.size w wr
theorem ExpInv.step{w wr w':World}{gb g1 g2 n x y q q':Nat}{A:Option Addr}{e:Ending}{u:Int}(h:ExpInv w gb g1 g2 A n x y q wr)(hP:q0v g1 0 u wr e w')(hu:u=((x^q':Nat):Int))(h1:w.heap.size<=g1)(hb:g1≠gb)(h2:g1≠g2):ExpInv w gb g1 g2 A n x y q' w':=by
 have hF:=hP.f h.o;exact⟨h.by_.fs1 hF.2.2 hb,by rw[<- hu];exact hF.2.1,h.base.fs1 hF.2.2 h2,h.words.fs h.off hF.2.2,h.off,hF.below h.bel h.bel.size h1⟩
theorem IntAt.nil{w:World}{g o:Nat}(h:IntAt w g o 0):∃A c,w.cell? ⟨g,o+1,none⟩=some (.slice A 0 c):=by
 obtain⟨A,n,c,h0,h1,hr,hz⟩:=h.ex;have:n=0:=hr.len.symm;subst this;exact⟨A,c,h1⟩
theorem q6e(x s:Nat)(hx:x<4294967296):(bits .and .u32 ((x:Int)/2^s) 1==1)=decide (x/2^s%2=1):=by
 rw[q2z,q7A _ (Nat.lt_of_le_of_lt (Nat.div_le_self _ _) hx)];rcases Nat.mod_two_eq_zero_or_one (x/2^s) with h|h<;>rw[h]<;>rfl
theorem q2I(y i:Nat):y/2^i=2*(y/2^(i+1))+y/2^i%2:=by
 rw[Nat.pow_succ,<- Nat.div_div_eq_div_mul];omega
theorem q9I(y i:Nat):nth (toL y) (i/32)/2^(i%32)%2=y/2^i%2:=by
 rw[q0V,q38,<- Nat.mod_mul_right_div_self];have e:(2:Nat)^(i%32)*2=2^(i%32+1):=(Nat.pow_succ ..).symm;have e2:(4294967296:Nat)=2^(i%32+1)*2^(31-i%32):=by rw[<- Nat.pow_add,show i%32+1+(31-i%32)=32 by omega]
 rw[e,e2,Nat.mod_mul_right_mod,<- e,Nat.mod_mul_right_div_self,Nat.div_div_eq_div_mul,<- Nat.pow_add,show 32*(i/32)+i%32=i by omega]
def lp(p:Int)(d:Nat):Int:=sg (decide (p<0)) (p.natAbs/Nat.gcd p.natAbs d)
def ld(p:Int)(d:Nat):Nat:=d/Nat.gcd p.natAbs d
theorem qaX(p:Int)(d:Nat):(lp p d).natAbs=p.natAbs/Nat.gcd p.natAbs d:=q2D _ _
theorem q1X{n d:Nat}(hd:0<d):0<Nat.gcd n d:=Nat.gcd_pos_of_pos_right _ hd
theorem q91{p:Int}{d:Nat}(hd:0<d):0<ld p d:=Nat.div_pos (Nat.le_of_dvd hd (Nat.gcd_dvd_right _ _)) (q1X hd)
theorem qaW{p:Int}{d:Nat}(hd:0<d):Nat.gcd (lp p d).natAbs (ld p d)=1:=by
 rw[qaX];exact Nat.gcd_div_gcd_div_gcd_of_pos_right hd
theorem q75(p:Int)(d:Nat):lp p d*(Nat.gcd p.natAbs d:Nat)=p:=by
 have h:=Nat.div_mul_cancel (Nat.gcd_dvd_left p.natAbs d);have e:((p.natAbs/Nat.gcd p.natAbs d:Nat):Int)*(Nat.gcd p.natAbs d:Nat)=(p.natAbs:Int):=by rw[<- Int.natCast_mul,h]
 unfold lp sg;by_cases k:p<0
 ·rw[decide_eq_true k,if_pos rfl,Int.neg_mul,e];omega
 ·rw[decide_eq_false k,if_neg (by decide),e];omega
theorem qaZ(p:Int)(d:Nat):ld p d*Nat.gcd p.natAbs d=d:=Nat.div_mul_cancel (Nat.gcd_dvd_right _ _)
theorem q8j(p:Int)(d:Nat):lp p d*d=p*ld p d:=by
 have h1:=q75 p d;have h2:((ld p d:Nat):Int)*(Nat.gcd p.natAbs d:Nat)=d:=by rw[<- Int.natCast_mul,qaZ]
 generalize ((Nat.gcd p.natAbs d:Nat):Int)=G at *
 calc lp p d*d=lp p d*(ld p d*G):=by rw[h2]
  _=lp p d*G*ld p d:=by grind
  _=p*ld p d:=by rw[h1]
theorem q50(d:Nat):lp 0 d=0:=by simp [lp,sg]
theorem q9O{d:Nat}(hd:0<d):ld 0 d=1:=by simp [ld,Nat.div_self hd]
theorem q5Z{p:Int}{d:Nat}:lp p d=0↔p=0:=by
 constructor
 ·intro h;have:=q75 p d;rw[h,Int.zero_mul] at this;exact this.symm
 ·rintro rfl;exact q50 d
theorem q8Z{p:Int}{d:Nat}(hd:0<d):lp p d<0↔p<0:=by
 have h:=q75 p d;have hg:(0:Int)<(Nat.gcd p.natAbs d:Nat):=by have:=q1X (n:=p.natAbs) hd;omega
 generalize ((Nat.gcd p.natAbs d:Nat):Int)=G at *
 constructor
 ·intro k;rw[<- h];exact Int.mul_neg_of_neg_of_pos k hg
 ·intro k;rcases Int.lt_or_le (lp p d) 0 with h1|h1
  ·exact h1
  ·have:=Int.mul_nonneg h1 (Int.le_of_lt hg);omega
theorem q9M{p:Int}{d:Nat}(hd:0<d):(lp p d).sign=p.sign:=by
 rcases Int.lt_trichotomy p 0 with h|h|h
 ·rw[Int.sign_eq_neg_one_of_neg h,Int.sign_eq_neg_one_of_neg ((q8Z hd).2 h)]
 ·subst h;rw[q50]
 ·rw[Int.sign_eq_one_of_pos h,Int.sign_eq_one_of_pos];have h1:=(q8Z (p:=p) hd);have h2:=q5Z (p:=p) (d:=d);omega
theorem q8k{x p:Int}{y d:Nat}(hd:0<d)(hy:0<y)(hc:Nat.gcd x.natAbs y=1)(h:x*d=p*y):lp p d=x/\ld p d=y:=by
 have a2:=q91 (p:=p) hd;have a0:=qaW (p:=p) hd;have a1:=q8j p d;have e:lp p d*y=x*ld p d:=by
  have:(d:Int)*(lp p d*y)=d*(x*ld p d):=by
   calc (d:Int)*(lp p d*y)=lp p d*d*y:=by grind
    _=p*ld p d*y:=by rw[a1]
    _=p*y*ld p d:=by grind
    _=x*d*ld p d:=by rw[h]
    _=_:=by grind
  exact Int.eq_of_mul_eq_mul_left (by omega) this
 have en:(lp p d).natAbs*y=x.natAbs*ld p d:=by
  have:=congrArg Int.natAbs e
  rwa [Int.natAbs_mul,Int.natAbs_mul,Int.natAbs_natCast,Int.natAbs_natCast] at this
 have d1:y ∣ ld p d:=by
  have:y ∣ x.natAbs*ld p d:=⟨(lp p d).natAbs,by rw[<- en,Nat.mul_comm]⟩;exact(Nat.Coprime.symm hc).dvd_of_dvd_mul_left this
 have d2:ld p d ∣ y:=by
  have:ld p d ∣ (lp p d).natAbs*y:=⟨x.natAbs,by rw[en,Nat.mul_comm]⟩;exact(Nat.Coprime.symm a0).dvd_of_dvd_mul_left this
 have ey:=Nat.dvd_antisymm d1 d2;refine⟨?_,ey.symm⟩;rw[<- ey] at e;exact Int.eq_of_mul_eq_mul_right (by omega) e
theorem qaA{b:Bool}{N D:Nat}(hD:0<D):Nat.gcd (sg b (N/Nat.gcd N D)).natAbs (D/Nat.gcd N D)=1/\sg b (N/Nat.gcd N D)*(D:Int)=sg b N*(D/Nat.gcd N D:Nat):=by
 refine⟨by rw[q2D];exact Nat.gcd_div_gcd_div_gcd_of_pos_right hD,?_⟩;have hg:=q1X (n:=N) hD;have g1:=Nat.gcd_dvd_left N D;have g2:=Nat.gcd_dvd_right N D;obtain⟨x,hx⟩:=g1;obtain⟨y,hy⟩:=g2;generalize Nat.gcd N D=G at *
 have e:N/G*D=N*(D/G):=by rw[hx,hy,Nat.mul_div_cancel_left _ hg,Nat.mul_div_cancel_left _ hg];grind
 have e':((N/G:Nat):Int)*D=(N:Int)*(D/G:Nat):=by rw[<- Int.natCast_mul,e,Int.natCast_mul]
 cases b
 ·exact e'
 ·show -((N/G:Nat):Int)*D = -(N:Int)*(D/G:Nat);rw[Int.neg_mul,e',Int.neg_mul]
def q2d(w:World)(A:Option Addr)(n c d:Nat):Prop:=(n=0/\d=1\/0<n/\Rd w A n c (toL d))/\∀a,A=some a->a.off=0
structure RatSh(w:World)(g:Nat):Prop where
 int:∃v,IntAt w g 0 v
 c2:∃x,w.cell? ⟨g,2,none⟩=some x
structure RatAt(w:World)(g:Nat)(p:Int)(d:Nat):Prop where
 num:IntAt w g 0 (lp p d)
 den:∃A n c,w.cell? ⟨g,2,none⟩=some (.slice A n c)/\q2d w A n c (ld p d)
 pos:0<d
theorem RatAt.lt{w:World}{g:Nat}{p:Int}{d:Nat}(h:RatAt w g p d):g<w.heap.size:=h.num.lt
theorem RatAt.sh{w:World}{g:Nat}{p:Int}{d:Nat}(h:RatAt w g p d):RatSh w g:=⟨⟨_,h.num⟩,by obtain⟨A,n,c,e,-⟩:=h.den;exact⟨_,e⟩⟩
theorem q2d.below{B:Nat}{w w':World}{A:Option Addr}{n c d:Nat}(h:q2d w A n c d)(hb:Below B w w')(hB:B=w.heap.size):q2d w' A n c d:=
 ⟨h.1.imp id fun k=>⟨k.1,k.2.below hb hB⟩,h.2⟩
theorem q2d.fs{l:List Ob}{w w':World}{A:Option Addr}{n c d:Nat}(h:q2d w A n c d)(hf:Fs l w w'):q2d w' A n c d:=
 ⟨h.1.imp id fun k=>⟨k.1,k.2.fs h.2 hf⟩,h.2⟩
theorem q2d.like{w w':World}{A:Option Addr}{n c d:Nat}(h:q2d w A n c d)(e:w'.heap=w.heap):q2d w' A n c d:=
 ⟨h.1.imp id fun k=>⟨k.1,k.2.like e⟩,h.2⟩
theorem RatSh.below{w w':World}{g:Nat}(h:RatSh w g)(hb:Below w.heap.size w w'):RatSh w' g:=by
 obtain⟨⟨v,hv⟩,x,hx⟩:=h;exact⟨⟨v,hv.below hb⟩,x,(hb.cell (p:=⟨g,2,none⟩) hv.lt).trans hx⟩
theorem RatAt.below{w w':World}{g:Nat}{p:Int}{d:Nat}(h:RatAt w g p d)(hb:Below w.heap.size w w'):RatAt w' g p d:=by
 obtain⟨A,n,c,e,hd⟩:=h.den;exact⟨h.num.below hb,⟨A,n,c,(hb.cell (p:=⟨g,2,none⟩) h.lt).trans e,hd.below hb rfl⟩,h.pos⟩
theorem RatAt.like{w w':World}{g:Nat}{p:Int}{d:Nat}(h:RatAt w g p d)(e:w'.heap=w.heap):RatAt w' g p d:=by
 obtain⟨A,n,c,e1,hd⟩:=h.den;exact⟨h.num.like e,⟨A,n,c,by rw[<- e1];simp only[World.cell?,e],hd.like e⟩,h.pos⟩
theorem RatSh.num{w w':World}{g:Nat}{u:Int}{e:Ending}(h:RatSh w g)(hP:q8P g 0 u w e w'):IntAt w' g 0 u/\∃x,w'.cell? ⟨g,2,none⟩=some x:=by
 obtain⟨⟨v,hv⟩,x,hx⟩:=h;exact⟨hP.2.1,x,(hP.2.2.cell g 2 hv.lt fun p hp _=>by rw[List.mem_singleton.1 hp];right;exact lr).trans hx⟩
theorem Fs.set2{w:World}{g:Nat}{v:Int}(h:IntAt w g 0 v)(s:Value):Fs [(g,2,1)] w (w.setCell ⟨g,2,none⟩ s):=by
 obtain⟨x,hx⟩:=h.head;refine⟨rfl,rfl,rfl,by simp [World.setCell],fun k _ hn=>Below.heap_setCell w ⟨g,2,none⟩ s k (fun e=>hn _ (List.mem_singleton.2 rfl) e.symm),fun k j _ hn=>q0i (fun e=>?_),fun k j _=>World.frozen?_setCell _ _ _ _,fun k _ hk=>?_,fun p hp _=>?_⟩
 ·injection e with e1 e2
  have:=hn (g,2,1) (List.mem_singleton.2 rfl) e1;simp only at this;omega
 ·obtain⟨y,hy⟩:=hk;exact⟨y,(q0i (fun e=>by injection e with _ e;omega)).trans hy⟩
 ·rw[List.mem_singleton.1 hp];exact⟨x,hx⟩
theorem IntAt.set2{w:World}{g:Nat}{v:Int}(h:IntAt w g 0 v)(s:Value):IntAt (w.setCell ⟨g,2,none⟩ s) g 0 v:=
 h.fs (Fs.set2 h s) fun p hp _=>by rw[List.mem_singleton.1 hp];left;exact lr
theorem RatAt.made{w:World}{g n c d:Nat}{p x:Int}{y:Nat}{A:Option Addr}(h:IntAt w g 0 x)(hc:∃z,w.cell? ⟨g,2,none⟩=some z)(hd:q2d w A n c y)(hp:0<d)(hy:0<y)(h1:Nat.gcd x.natAbs y=1)(h2:x*d=p*y):RatAt (w.setCell ⟨g,2,none⟩ (.slice A n c)) g p d:=by
 obtain⟨e1,e2⟩:=q8k hp hy h1 h2;obtain⟨z,hz⟩:=hc;exact⟨by rw[e1];exact h.set2 _,⟨A,n,c,q0u hz,by rw[e2];exact hd.fs (Fs.set2 h _)⟩,hp⟩
theorem fs3{w w':World}{g:Nat}(h:Fs [(g,0,2),(g,2,1)] w w'):Fs [(g,0,3)] w w':=
 ⟨h.os,h.tape,h.output,h.size,fun k hk hn=>h.block k hk fun p hp=>by
   simp only[List.mem_cons,List.not_mem_nil,or_false] at hp;rcases hp with rfl|rfl<;>exact hn (g,0,3) (List.mem_singleton.2 rfl),
  fun k j hk hn=>h.cell k j hk fun p hp e=>by
   have:=hn (g,0,3) (List.mem_singleton.2 rfl);simp only[List.mem_cons,List.not_mem_nil,or_false] at hp;rcases hp with rfl|rfl<;>(have:=this e;simp only at this ⊢;omega),
  h.frozen,h.head,fun p hp hlt=>by
   rw[List.mem_singleton.1 hp] at hlt ⊢;exact h.obj (g,0,2) (by simp) hlt⟩
def qaf(g:Nat)(p:Int)(d:Nat)(w:World)(e:Ending)(w':World):Prop:=e=.returned (.pointer (some ⟨g,0,none⟩))/\RatAt w' g p d/\Fs [(g,0,3)] w w'
theorem qaf.below{g B d:Nat}{p:Int}{a w w':World}{e:Ending}(h:qaf g p d w e w')(hb:Below B a w)(hB:B<=w.heap.size)(hg:B<=g):Below B a w':=
 h.2.2.below hb hB (fun p hp=>by rw[List.mem_singleton.1 hp];exact hg)
theorem Fs.after{l:List Ob}{a w w':World}(h:Fs l w w')(hb:Below a.heap.size a w):Fs l a w':=
 ((Fs.of_nil hb).trans h).drop (fun p hp _=>hp) (fun p hp=>hp)
def qbG(p:Int)(d:Nat)(w:World)(e:Ending)(w':World):Prop:=∃g,e=.returned (.pointer (some ⟨g,0,none⟩))/\w.heap.size<=g/\RatAt w' g p d/\Below w.heap.size w w'
theorem RatAt.zero(w:World)(t:TypeId):RatAt (w.alloc (.cells #[.bool false,.slice none 0 0,.slice none 0 0] t)) w.heap.size 0 1:=by
 have hi:IntAt (w.alloc (.cells #[.bool false,.slice none 0 0,.slice none 0 0] t)) w.heap.size 0 0:=
  ⟨by simp,⟨false,by simp only[World.cell?];rw[heap_alloc_new];rfl⟩,fun j=>by simp only[World.frozen?];rw[heap_alloc_new];simp,none,0,0,by simp only[World.cell?];rw[heap_alloc_new];rfl,by simp only[World.cell?];rw[heap_alloc_new];rfl,by
   have:toL (0:Int).natAbs=[]:=rfl;rw[this];exact Rd.nil _,fun a e=>by cases e⟩
 exact⟨by rw[q50];exact hi,⟨none,0,0,by simp only[World.cell?];rw[heap_alloc_new];rfl,.inl ⟨rfl,q9O (by omega)⟩,fun a e=>by cases e⟩,by omega⟩
theorem Rd.den{w:World}{A:Option Addr}{n c d:Nat}(h:Rd w A n c (toL d))(hd:0<d)(hz:∀a,A=some a->a.off=0):q2d w A n c d:=by
 refine⟨.inr ⟨?_,h⟩,hz⟩;rcases Nat.eq_zero_or_pos n with rfl|hn
 ·have:=q0c.1 h.words;omega
 ·exact hn
theorem q2d.nil(w:World):q2d w none 0 0 1:=⟨.inl ⟨rfl,rfl⟩,fun a e=>by cases e⟩
def Sm(n:Nat):Prop:=bl n<=4294967296
theorem q3q(a b:Nat):bl (a*b)<=bl a+bl b:=q1F (by rw[Nat.pow_add];exact Nat.mul_lt_mul'' (q20 a) (q20 b))
end Go.Proofs.YtcdimmblnbkjjaaGreatDoor
namespace Go.Proofs.YtcdimmblnbkjjaaGreatDoor
open Go
theorem q9N{a b:Nat}{e:Int}(ha:0<a)(hb:0<b)(h:b*p2 e<=a*p2 (-e)):e<=q21 a b:=by
 rcases Int.lt_or_le (q21 a b) e with k|k
 ·have:=q5u k (q2o ha hb).2;omega
 ·exact k
theorem q9S{a b:Nat}{e:Int}(ha:0<a)(hb:0<b)(h:a*p2 (-e)<b*p2 e):q21 a b<e:=by
 rcases Int.lt_or_le (q21 a b) e with k|k
 ·exact k
 ·have:=q8m k (q2o ha hb).1;omega
theorem q9F{E F:Nat}{neg:Bool}{mode a b:Nat}(h:q1m E<q21 a b):out E F neg mode a b=(if q1u neg mode then q4c E F-1 else q4c E F,3):=by
 have:over E F neg mode a b=true:=by
  unfold over q4J;rw[Bool.or_eq_true,decide_eq_true_iff]
  left;omega
 unfold out;rw[if_pos this]
theorem q89{E F:Nat}{neg:Bool}{mode a b:Nat}(hE:2<=E)(hF:1<=F)(ha:0<a)(hb:0<b)(h:q21 a b < -q1m E-F-1):out E F neg mode a b=(if q3B neg mode false (-1) then 1 else 0,5):=by
 have h3:=q5G hE;have hl:q4J E a b=1-q1m E:=by unfold q4J;omega
 have hs:=(q2o ha hb).2;have hA:4*(a*p2 (F-(1-q1m E)))<b:=by
  have e1:p2 (-q21 a b)=8*p2 (F-(1-q1m E))*p2 (-q21 a b-(F-(1-q1m E))-3):=by
   have k1:=q2k (m:=3) (n:=F-(1-q1m E)) (by omega) (by omega);have k2:=q2k (m:=3+(F-(1-q1m E))) (n:=-q21 a b-(F-(1-q1m E))-3) (by omega) (by omega);rw[show(3:Int)+(F-(1-q1m E))+(-q21 a b-(F-(1-q1m E))-3) = -q21 a b by omega,k1] at k2;exact k2
  rw[q0z (n:=q21 a b) (by omega),Nat.mul_one,e1] at hs;have h4:=q0I (-q21 a b-(F-(1-q1m E))-3);have h5:a*(8*p2 (F-(1-q1m E)))*1<=a*(8*p2 (F-(1-q1m E)))*p2 (-q21 a b-(F-(1-q1m E))-3):=Nat.mul_le_mul_left _ h4;have h6:a*(8*p2 (F-(1-q1m E))*p2 (-q21 a b-(F-(1-q1m E))-3))=a*(8*p2 (F-(1-q1m E)))*p2 (-q21 a b-(F-(1-q1m E))-3):=by grind
  rw[h6] at hs;have h7:a*(8*p2 (F-(1-q1m E)))=8*(a*p2 (F-(1-q1m E))):=by grind
  omega
 have a1:0<a*p2 (F-(1-q1m E)):=Nat.mul_pos ha (q0I _);have hr:q6J E F a b=a*p2 (F-(1-q1m E)):=by
  unfold q6J;rw[hl,q0z (n:=1-q1m E-F) (by omega),Nat.mul_one];exact Nat.mod_eq_of_lt (by omega)
 have hm:mant E F neg mode a b=if q3B neg mode false (-1) then 1 else 0:=by
  unfold mant rnd;rw[hl,q0z (n:=1-q1m E-F) (by omega),Nat.mul_one,Nat.mod_eq_of_lt (by omega),Nat.div_eq_of_lt (by omega),if_neg (by omega),q2c (by omega)]
  rfl
 have a0:q4G E F neg mode a b=if q3B neg mode false (-1) then 1 else 0:=by
  unfold q4G;rw[hm,hl,show(1-q1m E+q1m E-1).toNat=0 by omega];simp
 have hi:=qb1 (F:=F) hE;have a2:2^1<=2^F:=Nat.pow_le_pow_right (by omega) hF;have ho:over E F neg mode a b=false:=by
  unfold over;rw[a0,hl,Bool.or_eq_false_iff,decide_eq_false_iff_not,decide_eq_false_iff_not];refine⟨by omega,?_⟩;have h8:3*((2^F:Nat):Int)<=(2*q1m E+1)*(2^F:Nat):=Int.mul_le_mul_of_nonneg_right (by omega) (by omega);split<;>omega
 have hu:q3w E F neg mode a b=true:=by
  unfold q3w;rw[Bool.and_eq_true,Bool.or_eq_true,decide_eq_true_iff,decide_eq_true_iff];exact⟨by omega,.inl (by omega)⟩
 unfold out q5B;rw[ho,if_neg (by decide),a0,hr,if_neg (show ¬a*p2 (F-(1-q1m E))=0 by omega),hu,if_pos rfl]
def q3c(n K:Int):Int:=max (-K) (min n K)
theorem q5s{E F:Nat}{neg:Bool}{mode:Nat}(f g:Int->Nat)(K n:Int)(hE:2<=E)(hE':E<=11)(hF:1<=F)(hF':F<=52)(hK:0<=K)(hf:∀n,0<f n)(hg:∀n,0<g n)
  (h1:∀n,K<=n->g n*p2 1200<=f n) (h2:∀n,n <= -K->f n*p2 1200<g n):out E F neg mode (f (q3c n K)) (g (q3c n K))=out E F neg mode (f n) (g n):=by
 have hb:=q7z hE';have big:∀n,K<=n->out E F neg mode (f n) (g n)=(if q1u neg mode then q4c E F-1 else q4c E F,3):=fun n hn=>by
  have:=q9N (e:=1200) (hf n) (hg n) (by rw[q0z (n:=-1200) (by omega),Nat.mul_one];exact h1 n hn);exact q9F (by omega)
 have tiny:∀n,n <= -K->out E F neg mode (f n) (g n)=(if q3B neg mode false (-1) then 1 else 0,5):=fun n hn=>by
  have:=q9S (e:=-1200) (hf n) (hg n) (by rw[q0z (n:=-1200) (by omega),Nat.mul_one];exact h2 n hn);exact q89 hE hF (hf n) (hg n) (by omega)
 unfold q3c;rcases Int.lt_or_le n (-K) with h|h
 ·rw[show max (-K) (min n K) = -K by omega,tiny _ (Int.le_refl _),tiny _ (by omega)]
 ·rcases Int.lt_or_le K n with h'|h'
  ·rw[show max (-K) (min n K)=K by omega,big _ (Int.le_refl _),big _ (by omega)]
  ·rw[show max (-K) (min n K)=n by omega]
theorem q6O(x:Nat)(y:Int):2^x*p2 y=2^(x+y.toNat):=by unfold p2;rw[Nat.pow_add]
theorem q8W(k:Nat):2^k<=10^k:=Nat.pow_le_pow_left (by omega) k
def t10(n:Int):Nat:=10^n.toNat
theorem q33(n:Int):0<t10 n:=Nat.pow_pos (by omega)
theorem q6U{E F:Nat}{neg:Bool}{mode a b:Nat}(c:Int)(n:Int)(hE:2<=E)(hE':E<=11)(hF:1<=F)(hF':F<=52)(ha:0<a)(hb:0<b)(hc:1200<=c):
  out E F neg mode (a*t10 (q3c n (bl a+bl b+c))) (b*t10 (-q3c n (bl a+bl b+c)))=out E F neg mode (a*t10 n) (b*t10 (-n)):=by
 refine q5s (fun n=>a*t10 n) (fun n=>b*t10 (-n)) _ n hE hE' hF hF' (by omega) (fun n=>Nat.mul_pos ha (q33 _)) (fun n=>Nat.mul_pos hb (q33 _)) (fun n hn=>?_) (fun n hn=>?_)
 ·have h1:t10 (-n)=1:=by unfold t10;rw[show(-n).toNat=0 by omega]
  show b*t10 (-n)*p2 1200<=a*t10 n;rw[h1,Nat.mul_one]
  calc b*p2 1200<=2^bl b*p2 1200:=Nat.mul_le_mul (Nat.le_of_lt (q20 b)) lr
   _=2^(bl b+(1200:Int).toNat):=q6O _ _
   _<=2^n.toNat:=Nat.pow_le_pow_right (by omega) (by omega)
   _<=t10 n:=q8W _
   _<=a*t10 n:=Nat.le_mul_of_pos_left _ ha
 ·have h1:t10 n=1:=by unfold t10;rw[show n.toNat=0 by omega]
  show a*t10 n*p2 1200<b*t10 (-n);rw[h1,Nat.mul_one]
  calc a*p2 1200<2^bl a*p2 1200:=Nat.mul_lt_mul_of_pos_right (q20 a) (q0I _)
   _=2^(bl a+(1200:Int).toNat):=q6O _ _
   _<=2^(-n).toNat:=Nat.pow_le_pow_right (by omega) (by omega)
   _<=t10 (-n):=q8W _
   _<=b*t10 (-n):=Nat.le_mul_of_pos_left _ hb
theorem q6T{E F:Nat}{neg:Bool}{mode a:Nat}(c:Int)(n:Int)(hE:2<=E)(hE':E<=11)(hF:1<=F)(hF':F<=52)(ha:0<a)(hc:1200<=c):
  out E F neg mode (a*p2 (q3c n (bl a+c))) (p2 (-q3c n (bl a+c)))=out E F neg mode (a*p2 n) (p2 (-n)):=by
 refine q5s (fun n=>a*p2 n) (fun n=>p2 (-n)) _ n hE hE' hF hF' (by omega) (fun n=>Nat.mul_pos ha (q0I _)) (fun n=>q0I _) (fun n hn=>?_) (fun n hn=>?_)
 ·show p2 (-n)*p2 1200<=a*p2 n;rw[q0z (n:=-n) (by omega),Nat.one_mul]
  calc p2 1200<=p2 n:=q9E (by omega)
   _<=a*p2 n:=Nat.le_mul_of_pos_left _ ha
 ·show a*p2 n*p2 1200<p2 (-n);rw[q0z (n:=n) (by omega),Nat.mul_one]
  calc a*p2 1200<2^bl a*p2 1200:=Nat.mul_lt_mul_of_pos_right (q20 a) (q0I _)
   _=2^(bl a+(1200:Int).toNat):=q6O _ _
   _<=p2 (-n):=Nat.pow_le_pow_right (by omega) (by omega)
end Go.Proofs.YtcdimmblnbkjjaaGreatDoor
