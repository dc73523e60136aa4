/- Lemmas. -/
import Derived.Test.YtcdimmblnbkjjaaGreatDoorPartAH
import Derived.Test.YtcdimmblnbkjjaaGreatDoorPartAB
set_option linter.all false
namespace Go.Proofs.YtcdimmblnbkjjaaGreatDoor
open Go Go.RowKit
theorem q0t{w:World}{a b:Addr}{v:Value}(h:a≠b):(w.setCell a v).cell? b=w.cell? b:=World.cell?_setCell_other w a b v h
theorem q0G{w:World}{a:Addr}{u v:Value}(h:w.cell? a=some u):(w.setCell a v).cell? a=some v:=World.cell?_setCell_same w a v h
structure Fm(g o:Nat)(w w':World):Prop where
 os:w'.os=w.os
 tape:w'.tape=w.tape
 output:w'.output=w.output
 size:w.heap.size<=w'.heap.size
 block:∀k,k<w.heap.size->k≠g->w'.heap[k]?=w.heap[k]?
 cell:∀j,j≠o->j≠o+1->w'.cell? ⟨g,j,none⟩=w.cell? ⟨g,j,none⟩
 frozen:∀j,w'.frozen? ⟨g,j,none⟩=w.frozen? ⟨g,j,none⟩
theorem Fm.trans{g o:Nat}{a b c:World}(h:Fm g o a b)(k:Fm g o b c):Fm g o a c:=
 ⟨k.os.trans h.os,k.tape.trans h.tape,k.output.trans h.output,Nat.le_trans h.size k.size,fun i hi hn=>(k.block i (Nat.lt_of_lt_of_le hi h.size) hn).trans (h.block i hi hn),
  fun j h1 h2=>(k.cell j h1 h2).trans (h.cell j h1 h2),fun j=>(k.frozen j).trans (h.frozen j)⟩
theorem q1k{w w':World}{p:Addr}(h:w'.heap[p.block]?=w.heap[p.block]?):w'.frozen? p=w.frozen? p:=by
 simp only[World.frozen?,h]
theorem Fm.of_below{g o:Nat}{w w':World}(h:Below w.heap.size w w')(hg:g<w.heap.size):Fm g o w w':=
 ⟨h.os,h.tape,h.output,h.size,fun k hk _=>h.block k hk,fun j _ _=>World.cell?_of_block (h.block g hg),fun j=>q1k (p:=⟨g,j,none⟩) (h.block g hg)⟩
theorem Fm.set0{g o j:Nat}(w:World)(v:Value)(hp:j=o\/j=o+1):Fm g o w (w.setCell ⟨g,j,none⟩ v):=
 ⟨rfl,rfl,rfl,by simp [World.setCell],fun k _ hn=>Below.heap_setCell w ⟨g,j,none⟩ v k (show k≠g from hn),fun i h1 h2=>q0t (fun e=>by injection e with _ e;omega),fun i=>World.frozen?_setCell _ _ _ _⟩
theorem Fm.undrew{g o:Nat}{w w':World}(h:Fm g o w.drew w'):Fm g o w w':=⟨h.os,h.tape,h.output,h.size,h.block,h.cell,h.frozen⟩
theorem Fm.below{g o B:Nat}{a w w':World}(hb:Below B a w)(h:Fm g o w w')(hB:B<=w.heap.size)(hg:B<=g):Below B a w':=
 ⟨h.os.trans hb.os,h.tape.trans hb.tape,h.output.trans hb.output,Nat.le_trans hb.size h.size,fun k hk=>(h.block k (by omega) (by omega)).trans (hb.block k hk)⟩
structure IntAt(w:World)(g o:Nat)(v:Int):Prop where
 lt:g<w.heap.size
 head:∃x,w.cell? ⟨g,0,none⟩=some (.bool x)
 fz:∀j,w.frozen? ⟨g,j,none⟩=false
 ex:∃A n c,w.cell? ⟨g,o,none⟩=some (.bool (decide (v<0)))/\w.cell? ⟨g,o+1,none⟩=some (.slice A n c)/\Rd w A n c (toL v.natAbs)/\∀a,A=some a->a.off=0
theorem Rd.apart{w:World}{A:Option Addr}{n c g:Nat}{xs:List Nat}(h:Rd w A n c xs)(h0:∀a,A=some a->a.off=0)(hd:∃x,w.cell? ⟨g,0,none⟩=some (.bool x))(hn:0<n):∀a,A=some a->a.block≠g:=by
 intro a e hg;obtain⟨b,off,e1,_,hc⟩:=h.cell hn;obtain⟨x,hx⟩:=hd;rw[e1] at e;cases e
 have:=h0 _ e1;subst hg;have h2:=hc 0 hn;simp only at this;subst this;rw[hx] at h2;cases h2
theorem Rd.fm{w w':World}{A:Option Addr}{n c g o:Nat}{xs:List Nat}(h:Rd w A n c xs)(hf:Fm g o w w')(hne:0<n->∀a,A=some a->a.block≠g):Rd w' A n c xs:=
 ⟨h.len,h.le,h.sm,h.lim,fun hn=>by
  obtain⟨b,off,e,hlt,hc⟩:=h.cell hn;refine⟨b,off,e,Nat.lt_of_lt_of_le hlt hf.size,fun j hj=>?_⟩;rw[<- hc j hj];exact World.cell?_of_block (a:=⟨b,off+j,none⟩) (hf.block b hlt (hne hn _ e))⟩
theorem Fm.headAt{w w':World}{g o g':Nat}(hf:Fm g o w w')(h':∃x,w'.cell? ⟨g,0,none⟩=some (.bool x))(hlt:g'<w.heap.size)(h:∃x,w.cell? ⟨g',0,none⟩=some (.bool x)):∃x,w'.cell? ⟨g',0,none⟩=some (.bool x):=by
 by_cases e:g'=g
 ·subst e;exact h'
 ·obtain⟨x,hx⟩:=h;exact⟨x,(World.cell?_of_block (a:=⟨g',0,none⟩) (hf.block g' hlt e)).trans hx⟩
theorem IntAt.below{w w':World}{g o:Nat}{v:Int}(h:IntAt w g o v)(hb:Below w.heap.size w w'):IntAt w' g o v:=by
 obtain⟨A,n,c,h0,h1,hr,hz⟩:=h.ex;obtain⟨x,hx⟩:=h.head;exact⟨Nat.lt_of_lt_of_le h.lt hb.size,⟨x,(hb.cell (p:=⟨g,0,none⟩) h.lt).trans hx⟩,fun j=>(q1k (p:=⟨g,j,none⟩) (hb.block g h.lt)).trans (h.fz j),A,n,c,(hb.cell (p:=⟨g,o,none⟩) h.lt).trans h0,(hb.cell (p:=⟨g,o+1,none⟩) h.lt).trans h1,hr.below hb rfl,hz⟩
theorem IntAt.like{w w':World}{g o:Nat}{v:Int}(h:IntAt w g o v)(e:w'.heap=w.heap):IntAt w' g o v:=by
 obtain⟨A,n,c,h0,h1,hr,hz⟩:=h.ex;obtain⟨x,hx⟩:=h.head;exact⟨by rw[e];exact h.lt,⟨x,by rw[<- hx];simp only[World.cell?,e]⟩,fun j=>by rw[<- h.fz j];simp only[World.frozen?,e],A,n,c,by rw[<- h0];simp only[World.cell?,e],by rw[<- h1];simp only[World.cell?,e],hr.like e,hz⟩
theorem IntAt.drew{w:World}{g o:Nat}{v:Int}(h:IntAt w g o v):IntAt w.drew g o v:=h.like rfl
def put(w:World)(g o:Nat)(b:Bool)(s:Value):World:=(w.setCell ⟨g,o+1,none⟩ s).setCell ⟨g,o,none⟩ (.bool b)
theorem q4u(w:World)(g o:Nat)(b:Bool)(s:Value):Fm g o w (put w g o b s):=(Fm.set0 w s (.inr rfl)).trans (Fm.set0 _ _ (.inl rfl))
theorem q7h{w:World}{g o:Nat}{v:Int}(h:IntAt w g o v)(b:Bool)(A:Option Addr)(n c:Nat):∃x,(put w g o b (.slice A n c)).cell? ⟨g,0,none⟩=some (.bool x):=by
 obtain⟨A',n',c',h0,h1,hr,hz⟩:=h.ex;obtain⟨x,hx⟩:=h.head;rcases Nat.eq_zero_or_pos o with rfl|ho
 ·exact⟨b,q0G (u:=.bool x) ((q0t (fun e=>by injection e with _ e;omega)).trans hx)⟩
 ·refine⟨x,(q0t (fun e=>by injection e with _ e;omega)).trans ((q0t (fun e=>by injection e with _ e;omega)).trans hx)⟩
theorem IntAt.put{w:World}{g o:Nat}{v u:Int}(h:IntAt w g o v){A:Option Addr}{n c:Nat}{b:Bool}(hb:b=decide (u<0))(hr:Rd w A n c (toL u.natAbs))(hz:∀a,A=some a->a.off=0):IntAt (put w g o b (.slice A n c)) g o u:=by
 obtain⟨A',n',c',h0,h1,a0,a1⟩:=h.ex;have hf:=q4u w g o b (.slice A n c);refine⟨Nat.lt_of_lt_of_le h.lt hf.size,q7h h b A n c,fun j=>by rw[hf.frozen];exact h.fz j,A,n,c,?_,?_,hr.fm hf (hr.apart hz h.head),hz⟩
 ·rw[<- hb];exact q0G (u:=.bool (decide (v<0))) ((q0t (fun e=>by injection e with _ e;omega)).trans h0)
 ·exact(q0t (fun e=>by injection e with _ e;omega)).trans (q0G h1)
theorem q1V{u:Int}{N:Nat}(h:0<=u):decide (u<0)=(false && decide (0<N)):=by rw[Bool.false_and,decide_eq_false_iff_not];omega
theorem q6k(u:Int):decide (u<0)=(decide (u<0) && decide (0<u.natAbs)):=by
 rcases Int.lt_trichotomy u 0 with h|h|h
 ·rw[decide_eq_true h,Bool.true_and,eq_comm,decide_eq_true_iff];omega
 ·subst h;rfl
 ·rw[decide_eq_false (by omega),Bool.false_and]
theorem q6l(u:Int):decide (-u<0)=(!decide (u<0) && decide (0<u.natAbs)):=by
 rcases Int.lt_trichotomy u 0 with h|h|h
 ·rw[decide_eq_true h,decide_eq_false (by omega)];rfl
 ·subst h;rfl
 ·rw[decide_eq_false (p:=u<0) (by omega),Bool.not_false,Bool.true_and,decide_eq_true (by omega),decide_eq_true (by omega)]
theorem q4r(u v:Int):decide (u*v<0)=(decide (u<0) != decide (v<0) && decide (0<u.natAbs*v.natAbs)):=by
 rcases Int.lt_trichotomy u 0 with h|h|h
 ·rcases Int.lt_trichotomy v 0 with k|k|k
  ·have:=Int.mul_pos_of_neg_of_neg h k;rw[decide_eq_true h,decide_eq_true k,decide_eq_false (by omega)];rfl
  ·subst k;simp
  ·have:=Int.mul_neg_of_neg_of_pos h k;have h1:0<u.natAbs*v.natAbs:=Nat.mul_pos (by omega) (by omega);rw[decide_eq_true h,decide_eq_false (p:=v<0) (by omega),decide_eq_true this,decide_eq_true h1];rfl
 ·subst h;simp
 ·rcases Int.lt_trichotomy v 0 with k|k|k
  ·have:=Int.mul_neg_of_pos_of_neg h k;have h1:0<u.natAbs*v.natAbs:=Nat.mul_pos (by omega) (by omega);rw[decide_eq_false (p:=u<0) (by omega),decide_eq_true k,decide_eq_true this,decide_eq_true h1];rfl
  ·subst k;simp
  ·have:=Int.mul_pos h k;rw[decide_eq_false (p:=u<0) (by omega),decide_eq_false (p:=v<0) (by omega),decide_eq_false (by omega)];rfl
def q0j(g o:Nat)(u:Int)(w:World)(e:Ending)(w':World):Prop:=
 e=.returned (.pointer (some ⟨g,o,none⟩))/\IntAt w' g o u/\Fm g o w w'
def Sz(n:Nat):Prop:=bl n<=8796093022208
theorem Sz.words{n:Nat}(h:Sz n):words n<=274877906944:=by
 rcases Nat.eq_zero_or_pos n with rfl|hp
 ·simp [q0P]
 ·obtain⟨e,_⟩:=bl_words hp;have:=q3t (bl_words hp).2;unfold Sz at h;omega
theorem Rd.sz{w:World}{A:Option Addr}{n c N:Nat}(h:Rd w A n c (toL N))(hs:Sz N):n<=274877906944:=by
 rw[<- h.words];exact hs.words
def sg(b:Bool)(N:Nat):Int:=if b then -(N:Int) else(N:Int)
theorem q0R(b:Bool)(N:Nat):(sg b N).natAbs=N:=by cases b<;>simp [sg]
theorem q1a(b:Bool)(N:Nat):decide (sg b N<0)=(b && decide (0<N)):=by
 cases b
 ·simp [sg]
 ·simp only[sg,if_true,Bool.true_and];congr 1;apply propext;omega
theorem q3Z(u:Int):sg (decide (u<0)) u.natAbs=u:=by
 unfold sg;by_cases h:u<0<;>simp [h]<;>omega
theorem q8I(u:Int):sg (!decide (u<0)) u.natAbs = -u:=by
 unfold sg;by_cases h:u<0<;>simp [h]<;>omega
abbrev Ob:=Nat × Nat × Nat
structure Fs(l:List Ob)(w w':World):Prop where
 os:w'.os=w.os
 tape:w'.tape=w.tape
 output:w'.output=w.output
 size:w.heap.size<=w'.heap.size
 block:∀k,k<w.heap.size->(∀p∈l,p.1≠k)->w'.heap[k]?=w.heap[k]?
 cell:∀k j,k<w.heap.size->(∀p∈l,p.1=k->j<p.2.1\/p.2.1+p.2.2<=j)->w'.cell? ⟨k,j,none⟩=w.cell? ⟨k,j,none⟩
 frozen:∀k j,k<w.heap.size->w'.frozen? ⟨k,j,none⟩=w.frozen? ⟨k,j,none⟩
 head:∀k,k<w.heap.size->(∃x,w.cell? ⟨k,0,none⟩=some (.bool x))->∃x,w'.cell? ⟨k,0,none⟩=some (.bool x)
 obj:∀p∈l,p.1<w.heap.size->∃x,w.cell? ⟨p.1,0,none⟩=some (.bool x)
theorem Fs.of_below{w w':World}(l:List Ob)(h:Below w.heap.size w w')(ho:∀p∈l,p.1<w.heap.size->∃x,w.cell? ⟨p.1,0,none⟩=some (.bool x)):Fs l w w':=
 ⟨h.os,h.tape,h.output,h.size,fun k hk _=>h.block k hk,fun k j hk _=>World.cell?_of_block (a:=⟨k,j,none⟩) (h.block k hk),fun k j hk=>q1k (p:=⟨k,j,none⟩) (h.block k hk),
  fun k hk ⟨x,hx⟩=>⟨x,(World.cell?_of_block (a:=⟨k,0,none⟩) (h.block k hk)).trans hx⟩,ho⟩
theorem Fs.of_nil{w w':World}(h:Below w.heap.size w w'):Fs [] w w':=Fs.of_below [] h (fun _ hp=>by cases hp)
theorem Fm.fs{g o:Nat}{w w':World}{u v:Int}(h:Fm g o w w')(hv:IntAt w g o v)(hu:IntAt w' g o u):Fs [(g,o,2)] w w':=
 ⟨h.os,h.tape,h.output,h.size,fun k hk hn=>h.block k hk (fun e=>hn _ (List.mem_singleton.2 rfl) e.symm),
  fun k j hk hn=>by
   by_cases e:k=g
   ·subst e;have:j<o\/o+2<=j:=hn (k,o,2) (List.mem_singleton.2 rfl) rfl;exact h.cell j (by omega) (by omega)
   ·exact World.cell?_of_block (a:=⟨k,j,none⟩) (h.block k hk e),
  fun k j hk=>by
   by_cases e:k=g
   ·subst e;exact h.frozen j
   ·exact q1k (p:=⟨k,j,none⟩) (h.block k hk e),
  fun k hk hx=>h.headAt hu.head hk hx,fun p hp _=>by rw[List.mem_singleton.1 hp];exact hv.head⟩
theorem q0j.fs{g o:Nat}{u v:Int}{w w':World}{e:Ending}(h:q0j g o u w e w')(hv:IntAt w g o v):Fs [(g,o,2)] w w':=h.2.2.fs hv h.2.1
theorem Fs.trans{l l':List Ob}{a b c:World}(h:Fs l a b)(k:Fs l' b c):Fs (l++l') a c:=
 ⟨k.os.trans h.os,k.tape.trans h.tape,k.output.trans h.output,Nat.le_trans h.size k.size,
  fun i hi hn=>(k.block i (Nat.lt_of_lt_of_le hi h.size) (fun p hp=>hn p (List.mem_append_right _ hp))).trans (h.block i hi (fun p hp=>hn p (List.mem_append_left _ hp))),
  fun i j hi hn=>(k.cell i j (Nat.lt_of_lt_of_le hi h.size) (fun p hp=>hn p (List.mem_append_right _ hp))).trans (h.cell i j hi (fun p hp=>hn p (List.mem_append_left _ hp))),
  fun i j hi=>(k.frozen i j (Nat.lt_of_lt_of_le hi h.size)).trans (h.frozen i j hi),
  fun i hi hx=>k.head i (Nat.lt_of_lt_of_le hi h.size) (h.head i hi hx),
  fun p hp hlt=>by
   rcases List.mem_append.1 hp with hp|hp
   ·exact h.obj p hp hlt
   ·by_cases e:∃q∈l,q.1=p.1
    ·obtain⟨q,hq,e⟩:=e;have:=h.obj q hq (by omega)
     rwa [e] at this
    ·obtain⟨x,hx⟩:=k.obj p hp (Nat.lt_of_lt_of_le hlt h.size);exact⟨x,(World.cell?_of_block (a:=⟨p.1,0,none⟩) (h.block p.1 hlt (fun q hq e'=>e ⟨q,hq,e'⟩))).symm.trans hx⟩⟩
theorem Fs.weak{l l':List Ob}{w w':World}(h:Fs l w w')(hsub:∀p∈l,p.1<w.heap.size->p∈l')(ho:∀p∈l',p.1<w.heap.size->∃x,w.cell? ⟨p.1,0,none⟩=some (.bool x)):Fs l' w w':=
 ⟨h.os,h.tape,h.output,h.size,fun k hk hn=>h.block k hk (fun p hp e=>hn p (hsub p hp (by omega)) e),
  fun k j hk hn=>h.cell k j hk (fun p hp e=>hn p (hsub p hp (by omega)) e),h.frozen,h.head,ho⟩
theorem Fs.drop{l l':List Ob}{w w':World}(h:Fs l w w')(hsub:∀p∈l,p.1<w.heap.size->p∈l')(hl:∀p∈l',p∈l):Fs l' w w':=h.weak hsub (fun p hp=>h.obj p (hl p hp))
theorem Fs.undrew{l:List Ob}{w w':World}(h:Fs l w.drew w'):Fs l w w':=⟨h.os,h.tape,h.output,h.size,h.block,h.cell,h.frozen,h.head,h.obj⟩
theorem Fs.below{l:List Ob}{B:Nat}{a w w':World}(h:Fs l w w')(hb:Below B a w)(hB:B<=w.heap.size)(hg:∀p∈l,B<=p.1):Below B a w':=
 ⟨h.os.trans hb.os,h.tape.trans hb.tape,h.output.trans hb.output,Nat.le_trans hb.size h.size,fun k hk=>(h.block k (by omega) (fun p hp e=>by have:=hg p hp;omega)).trans (hb.block k hk)⟩
theorem Rd.fs{w w':World}{l:List Ob}{A:Option Addr}{n c:Nat}{xs:List Nat}(h:Rd w A n c xs)(h0:∀a,A=some a->a.off=0)(hf:Fs l w w'):Rd w' A n c xs:=
 ⟨h.len,h.le,h.sm,h.lim,fun hn=>by
  obtain⟨b,off,e,hlt,hc⟩:=h.cell hn;refine⟨b,off,e,Nat.lt_of_lt_of_le hlt hf.size,fun j hj=>?_⟩;rw[<- hc j hj];refine World.cell?_of_block (a:=⟨b,off+j,none⟩) (hf.block b hlt fun p hp hpb=>?_);obtain⟨x,hx⟩:=hf.obj p hp (by omega);have:=h0 _ e;simp only at this;subst this;have h2:=hc 0 hn;rw[hpb] at hx;rw[hx] at h2;cases h2⟩
theorem Std.fs{l:List Ob}{w w':World}(h:Std w)(hf:Fs l w w'):Std w':=by
 have hb:w'.heap[4]?=w.heap[4]?:=hf.block _ h.2 fun p hp e=>by
  obtain⟨x,hx⟩:=hf.obj p hp (by rw[e];exact h.2);have h2:=h.1 0 (by decide);rw[e] at hx;rw[hx] at h2;cases h2
 exact⟨fun j hj=>by rw[<- h.1 j hj];simp only[World.cell?,hb],Nat.lt_of_lt_of_le h.2 hf.size⟩
theorem IntAt.fs{w w':World}{l:List Ob}{g o:Nat}{v:Int}(h:IntAt w g o v)(hf:Fs l w w')(hne:∀p∈l,p.1=g->o+2<=p.2.1\/p.2.1+p.2.2<=o):IntAt w' g o v:=by
 obtain⟨A,n,c,h0,h1,hr,hz⟩:=h.ex;refine⟨Nat.lt_of_lt_of_le h.lt hf.size,hf.head g h.lt h.head,fun j=>(hf.frozen g j h.lt).trans (h.fz j),A,n,c,?_,?_,hr.fs hz hf,hz⟩
 ·rw[hf.cell g o h.lt fun p hp e=>by have:=hne p hp e;omega];exact h0
 ·rw[hf.cell g (o+1) h.lt fun p hp e=>by have:=hne p hp e;omega];exact h1
theorem IntAt.fs1{w w':World}{g o g' o' k:Nat}{v:Int}(h:IntAt w g o v)(hf:Fs [(g',o',k)] w w')(hne:g'≠g):IntAt w' g o v:=h.fs hf fun p hp e=>by
 rw[List.mem_singleton.1 hp] at e;exact absurd e hne
theorem q5k(u:Int)(k:Nat):decide (u*2^k<0)=(decide (u<0) && decide (0<u.natAbs*2^k)):=by
 have hp:(0:Int)<2^k:=Int.pow_pos (by omega);have a0:0<2^k:=Nat.two_pow_pos k;rcases Int.lt_trichotomy u 0 with h|h|h
 ·have:=Int.mul_neg_of_neg_of_pos h hp;have h1:0<u.natAbs*2^k:=Nat.mul_pos (by omega) a0;rw[decide_eq_true this,decide_eq_true h,decide_eq_true h1];rfl
 ·subst h;simp
 ·have:=Int.mul_pos h hp;rw[decide_eq_false (by omega),decide_eq_false (p:=u<0) (by omega)];rfl
theorem q6L{g o gr or:Nat}{a b:World}(h:Fs ([]++([(gr,or,2),(g,o,2)]++([]++([(g,o,2)]++([]++[(gr,or,2)]))))) a b):Fs [(gr,or,2),(g,o,2)] a b:=
 h.drop (fun p hp _=>by simp only[List.nil_append,List.cons_append,List.mem_cons,List.not_mem_nil,or_false] at hp ⊢;rcases hp with h|h|h|h<;>simp [h])
  (fun p hp=>by simp only[List.nil_append,List.cons_append,List.mem_cons,List.not_mem_nil,or_false] at hp ⊢;rcases hp with h|h<;>simp [h])
def q3s(a b:Int):Int:=if a<b then -1 else if b<a then 1 else 0
theorem q2G{a b:Int}(h:a<b):q3s a b = -1:=if_pos h
theorem q2H{a b:Int}(h:b<a):q3s a b=1:=by unfold q3s;rw[if_neg (by omega),if_pos h]
theorem q3r(a:Int):q3s a a=0:=by unfold q3s;rw[if_neg (by omega),if_neg (by omega)]
theorem q3q{a b:Int}(h:¬a<0)(k:¬b<0):q3s a b=q0J a.natAbs b.natAbs:=by
 rcases Int.lt_trichotomy a b with h1|h1|h1
 ·rw[q2G h1,q1u (by omega)]
 ·rw[h1,q3r,q4f rfl]
 ·rw[q2H h1,q2q (by omega)]
theorem q6T{a b:Int}(h:a<0)(k:b<0):q3s a b = -q0J a.natAbs b.natAbs:=by
 rcases Int.lt_trichotomy a b with h1|h1|h1
 ·rw[q2G h1,q2q (by omega)]
 ·rw[h1,q3r,q4f rfl];rfl
 ·rw[q2H h1,q1u (by omega)];rfl
theorem q5c(x:Nat)(h:x<4294967296):bits .and .u32 (x:Int) 1=((x%2:Nat):Int):=by
 have:=u32_and_nat x 1 h (by omega);rw[Nat.and_one_is_mod] at this;exact this
theorem q2P(n:Nat):nth (toL n) 0%2=n%2:=by
 have h3:val (toL n)=n:=q01 n
 match hl:toL n with
 | []=>rw[hl] at h3;simp [nth,val] at *;omega
 | a::l=>rw[hl] at h3;simp [nth,val] at *;omega
def q0Z(v:Int)(w:World)(e:Ending)(w':World):Prop:=∃g,e=.returned (.pointer (some ⟨g,0,none⟩))/\w.heap.size<=g/\IntAt w' g 0 v/\Below w.heap.size w w'
theorem IntAt.zero(w:World)(t:TypeId):IntAt (w.alloc (.cells #[.bool false,.slice none 0 0] t)) w.heap.size 0 0:=
 ⟨by simp,⟨false,by simp only[World.cell?];rw[heap_alloc_new];rfl⟩,fun j=>by simp only[World.frozen?];rw[heap_alloc_new];simp,none,0,0,by simp only[World.cell?];rw[heap_alloc_new];rfl,by simp only[World.cell?];rw[heap_alloc_new];rfl,by
  have:toL (0:Int).natAbs=[]:=rfl;rw[this];exact Rd.nil _,fun a e=>by cases e⟩
theorem q4F{a b q r:Int}(hb:b≠0)(h:b*q+r=a)(h0:0<=r)(h1:r<b.natAbs):a/b=q/\a%b=r:=by
 have key:∀{b q:Int},0<b->b*q+r=a->r<b->a/b=q/\a%b=r:=fun {b q} hp h h1 =>
  (Int.ediv_emod_unique hp).2 ⟨by rw[Int.add_comm];exact h,h0,h1⟩
 rcases Int.lt_or_gt_of_ne hb with hn|hp
 ·obtain⟨k1,k2⟩:=key (b:=-b) (q:=-q) (by omega) (by rw[Int.neg_mul_neg];exact h) (by omega);rw[Int.ediv_neg] at k1;rw[Int.emod_neg] at k2;exact⟨by omega,k2⟩
 ·exact key hp h (by omega)
theorem q92{u1 u2:Int}(h0:u2≠0)(hr:¬sg (decide (u1<0)) (u1.natAbs%u2.natAbs)<0):
  sg (decide (u1<0) != decide (u2<0)) (u1.natAbs/u2.natAbs)=u1/u2/\sg (decide (u1<0)) (u1.natAbs%u2.natAbs)=u1%u2:=by
 have hd:=Nat.div_add_mod u1.natAbs u2.natAbs;have hm:=Nat.mod_lt u1.natAbs (y:=u2.natAbs) (by omega);have hz:((u2.natAbs:Int)*(u1.natAbs/u2.natAbs:Nat)+(u1.natAbs%u2.natAbs:Nat))=(u1.natAbs:Int):=by rw[<- Int.natCast_mul,<- Int.natCast_add,hd]
 generalize u1.natAbs/u2.natAbs=Q at *
 generalize u1.natAbs%u2.natAbs=R at *
 have:=q4F (a:=u1) (b:=u2) (q:=sg (decide (u1<0) != decide (u2<0)) Q) (r:=sg (decide (u1<0)) R) h0 ?_ (by omega) (by by_cases h:u1<0<;>simp [sg,h] at*<;> omega)
 ·exact⟨this.1.symm,this.2.symm⟩
 by_cases h:u1<0<;>by_cases k:u2<0
 ·have e1:(u1.natAbs:Int) = -u1:=by omega
  have e2:(u2.natAbs:Int) = -u2:=by omega
  rw[e1,e2] at hz;simp [sg,h,k] at *
  try simp only[Int.neg_mul,Int.mul_neg] at *
  omega
 ·have e1:(u1.natAbs:Int) = -u1:=by omega
  have e2:(u2.natAbs:Int)=u2:=by omega
  rw[e1,e2] at hz;simp [sg,h,k] at *
  try simp only[Int.neg_mul,Int.mul_neg] at *
  omega
 ·have e1:(u1.natAbs:Int)=u1:=by omega
  have e2:(u2.natAbs:Int) = -u2:=by omega
  rw[e1,e2] at hz;simp [sg,h,k] at *
  try simp only[Int.neg_mul,Int.mul_neg] at *
  omega
 ·have e1:(u1.natAbs:Int)=u1:=by omega
  have e2:(u2.natAbs:Int)=u2:=by omega
  rw[e1,e2] at hz;simp [sg,h,k] at *
  try simp only[Int.neg_mul,Int.mul_neg] at *
  omega
theorem q8m{u1 u2:Int}(h0:u2≠0)(hr:sg (decide (u1<0)) (u1.natAbs%u2.natAbs)<0):
  sg (decide (u1<0) != decide (u2<0)) (u1.natAbs/u2.natAbs)+(if u2<0 then 1 else -1)=u1/u2/\((u2.natAbs-u1.natAbs%u2.natAbs:Nat):Int)=u1%u2:=by
 have hd:=Nat.div_add_mod u1.natAbs u2.natAbs;have hm:=Nat.mod_lt u1.natAbs (y:=u2.natAbs) (by omega);have hz:((u2.natAbs:Int)*(u1.natAbs/u2.natAbs:Nat)+(u1.natAbs%u2.natAbs:Nat))=(u1.natAbs:Int):=by rw[<- Int.natCast_mul,<- Int.natCast_add,hd]
 generalize u1.natAbs/u2.natAbs=Q at *
 generalize u1.natAbs%u2.natAbs=R at *
 have hu:u1<0:=by
  by_cases h:u1<0
  ·exact h
  ·simp [sg,h] at hr;omega
 have hR:0<R:=by
  rcases Nat.eq_zero_or_pos R with h|h
  ·subst h;simp [sg] at hr
  ·exact h
 have:=q4F (a:=u1) (b:=u2) (q:=sg (decide (u1<0) != decide (u2<0)) Q+(if u2<0 then 1 else -1)) (r:=((u2.natAbs-R:Nat):Int)) h0 ?_ (by omega) (by omega)
 ·exact⟨this.1.symm,this.2.symm⟩
 have e1:(u1.natAbs:Int) = -u1:=by omega
 by_cases k:u2<0
 ·have e2:(u2.natAbs:Int) = -u2:=by omega
  rw[e1,e2] at hz;have e3:((u2.natAbs-R:Nat):Int) = -u2-R:=by omega
  rw[e3];simp [sg,hu,k] at *
  try simp only[Int.neg_mul,Int.mul_neg,Int.mul_add] at *
  omega
 ·have e2:(u2.natAbs:Int)=u2:=by omega
  rw[e1,e2] at hz;have e3:((u2.natAbs-R:Nat):Int)=u2-R:=by omega
  rw[e3];simp [sg,hu,k] at *
  try simp only[Int.neg_mul,Int.mul_neg,Int.mul_add] at *
  omega
theorem Sz.mono{a b:Nat}(h:Sz b)(hab:a<=b):Sz a:=Nat.le_trans (q5a hab) h
theorem Sz.small{a:Nat}(h:a<18446744073709551616):Sz a:=Nat.le_trans (q15 (k:=64) h) (by omega)
def q5Y(g o:Nat)(u:Int)(w:World)(e:Ending)(w':World):Prop:=e=.returned (.pointer (some ⟨g,o,none⟩))/\IntAt w' g o u/\Fs [(g,o,2)] w w'
theorem q0j.f{g o:Nat}{u v:Int}{w w':World}{e:Ending}(h:q0j g o u w e w')(hv:IntAt w g o v):q5Y g o u w e w':=⟨h.1,h.2.1,h.fs hv⟩
theorem q5Y.below{g o B:Nat}{u:Int}{a w w':World}{e:Ending}(h:q5Y g o u w e w')(hb:Below B a w)(hB:B<=w.heap.size)(hg:B<=g):Below B a w':=
 h.2.2.below hb hB (fun p hp=>by rw[List.mem_singleton.1 hp];exact hg)
theorem q5Y.after{g o:Nat}{u:Int}{a w w':World}{e:Ending}(h:q5Y g o u w e w')(hb:Below a.heap.size a w):Fs [(g,o,2)] a w':=
 ((Fs.of_nil hb).trans h.2.2).drop (fun p hp _=>hp) (fun p hp=>hp)
structure ExpInv(w:World)(gb g1 g2:Nat)(A:Option Addr)(n x y q:Nat)(wr:World):Prop where
 by_:IntAt wr gb 0 0
 o:IntAt wr g1 0 ((x^q:Nat):Int)
 base:IntAt wr g2 0 (x:Int)
 words:Rd wr A n n (toL y)
 off:∀a,A=some a->a.off=0
 bel:Below w.heap.size w wr
theorem ExpInv.step{w wr w':World}{gb g1 g2 n x y q q':Nat}{A:Option Addr}{e:Ending}{u:Int}(h:ExpInv w gb g1 g2 A n x y q wr)(hP:q0j g1 0 u wr e w')(hu:u=((x^q':Nat):Int))(h1:w.heap.size<=g1)(hb:g1≠gb)(h2:g1≠g2):ExpInv w gb g1 g2 A n x y q' w':=by
 have hF:=hP.f h.o;exact⟨h.by_.fs1 hF.2.2 hb,by rw[<- hu];exact hF.2.1,h.base.fs1 hF.2.2 h2,h.words.fs h.off hF.2.2,h.off,hF.below h.bel h.bel.size h1⟩
theorem IntAt.nil{w:World}{g o:Nat}(h:IntAt w g o 0):∃A c,w.cell? ⟨g,o+1,none⟩=some (.slice A 0 c):=by
 obtain⟨A,n,c,h0,h1,hr,hz⟩:=h.ex;have:n=0:=hr.len.symm;subst this;exact⟨A,c,h1⟩
theorem q3P(x s:Nat)(hx:x<4294967296):(bits .and .u32 ((x:Int)/2^s) 1==1)=decide (x/2^s%2=1):=by
 rw[q2m,q5c _ (Nat.lt_of_le_of_lt (Nat.div_le_self _ _) hx)];rcases Nat.mod_two_eq_zero_or_one (x/2^s) with h|h<;>rw[h]<;>rfl
theorem q2R(y i:Nat):y/2^i=2*(y/2^(i+1))+y/2^i%2:=by
 rw[Nat.pow_succ,<- Nat.div_div_eq_div_mul];omega
theorem q6y(y i:Nat):nth (toL y) (i/32)/2^(i%32)%2=y/2^i%2:=by
 rw[q0O,q21,<- Nat.mod_mul_right_div_self];have e:(2:Nat)^(i%32)*2=2^(i%32+1):=(Nat.pow_succ ..).symm;have e2:(4294967296:Nat)=2^(i%32+1)*2^(31-i%32):=by rw[<- Nat.pow_add,show i%32+1+(31-i%32)=32 by omega]
 rw[e,e2,Nat.mod_mul_right_mod,<- e,Nat.mod_mul_right_div_self,Nat.div_div_eq_div_mul,<- Nat.pow_add,show 32*(i/32)+i%32=i by omega]
def lp(p:Int)(d:Nat):Int:=sg (decide (p<0)) (p.natAbs/Nat.gcd p.natAbs d)
def ld(p:Int)(d:Nat):Nat:=d/Nat.gcd p.natAbs d
theorem q5v(p:Int)(d:Nat):(lp p d).natAbs=p.natAbs/Nat.gcd p.natAbs d:=q0R _ _
theorem q0B{n d:Nat}(hd:0<d):0<Nat.gcd n d:=Nat.gcd_pos_of_pos_right _ hd
theorem q1m{p:Int}{d:Nat}(hd:0<d):0<ld p d:=Nat.div_pos (Nat.le_of_dvd hd (Nat.gcd_dvd_right _ _)) (q0B hd)
theorem q3F(p:Int)(d:Nat):(lp p d).natAbs<=p.natAbs:=by rw[q5v];exact Nat.div_le_self _ _
theorem q3G(p:Int)(d:Nat):ld p d<=d:=Nat.div_le_self _ _
theorem q2z{p:Int}{d:Nat}(hd:0<d):Nat.gcd (lp p d).natAbs (ld p d)=1:=by
 rw[q5v];exact Nat.gcd_div_gcd_div_gcd_of_pos_right hd
theorem q5u(p:Int)(d:Nat):lp p d*(Nat.gcd p.natAbs d:Nat)=p:=by
 have h:=Nat.div_mul_cancel (Nat.gcd_dvd_left p.natAbs d);have e:((p.natAbs/Nat.gcd p.natAbs d:Nat):Int)*(Nat.gcd p.natAbs d:Nat)=(p.natAbs:Int):=by rw[<- Int.natCast_mul,h]
 unfold lp sg;by_cases k:p<0
 ·rw[decide_eq_true k,if_pos rfl,Int.neg_mul,e];omega
 ·rw[decide_eq_false k,if_neg (by decide),e];omega
theorem q8Y(p:Int)(d:Nat):ld p d*Nat.gcd p.natAbs d=d:=Nat.div_mul_cancel (Nat.gcd_dvd_right _ _)
theorem q0W(p:Int)(d:Nat):lp p d*d=p*ld p d:=by
 have h1:=q5u p d;have h2:((ld p d:Nat):Int)*(Nat.gcd p.natAbs d:Nat)=d:=by rw[<- Int.natCast_mul,q8Y]
 generalize ((Nat.gcd p.natAbs d:Nat):Int)=G at *
 calc lp p d*d=lp p d*(ld p d*G):=by rw[h2]
  _=lp p d*G*ld p d:=by grind
  _=p*ld p d:=by rw[h1]
theorem q52(d:Nat):lp 0 d=0:=by simp [lp,sg]
theorem q8e{d:Nat}(hd:0<d):ld 0 d=1:=by simp [ld,Nat.div_self hd]
theorem q2F{p:Int}{d:Nat}:lp p d=0↔p=0:=by
 constructor
 ·intro h;have:=q5u p d;rw[h,Int.zero_mul] at this;exact this.symm
 ·rintro rfl;exact q52 d
theorem q2i{p:Int}{d:Nat}(hd:0<d):lp p d<0↔p<0:=by
 have h:=q5u p d;have hg:(0:Int)<(Nat.gcd p.natAbs d:Nat):=by have:=q0B (n:=p.natAbs) hd;omega
 generalize ((Nat.gcd p.natAbs d:Nat):Int)=G at *
 constructor
 ·intro k;rw[<- h];exact Int.mul_neg_of_neg_of_pos k hg
 ·intro k;rcases Int.lt_or_le (lp p d) 0 with h1|h1
  ·exact h1
  ·have:=Int.mul_nonneg h1 (Int.le_of_lt hg);omega
theorem q6D{p:Int}{d:Nat}(hd:0<d):(lp p d).sign=p.sign:=by
 rcases Int.lt_trichotomy p 0 with h|h|h
 ·rw[Int.sign_eq_neg_one_of_neg h,Int.sign_eq_neg_one_of_neg ((q2i hd).2 h)]
 ·subst h;rw[q52]
 ·rw[Int.sign_eq_one_of_pos h,Int.sign_eq_one_of_pos];have h1:=(q2i (p:=p) hd);have h2:=q2F (p:=p) (d:=d);omega
theorem q49{x p:Int}{y d:Nat}(hd:0<d)(hy:0<y)(hc:Nat.gcd x.natAbs y=1)(h:x*d=p*y):lp p d=x/\ld p d=y:=by
 have a2:=q1m (p:=p) hd;have a0:=q2z (p:=p) hd;have a1:=q0W p d;have e:lp p d*y=x*ld p d:=by
  have:(d:Int)*(lp p d*y)=d*(x*ld p d):=by
   calc (d:Int)*(lp p d*y)=lp p d*d*y:=by grind
    _=p*ld p d*y:=by rw[a1]
    _=p*y*ld p d:=by grind
    _=x*d*ld p d:=by rw[h]
    _=_:=by grind
  exact Int.eq_of_mul_eq_mul_left (by omega) this
 have en:(lp p d).natAbs*y=x.natAbs*ld p d:=by
  have:=congrArg Int.natAbs e
  rwa [Int.natAbs_mul,Int.natAbs_mul,Int.natAbs_natCast,Int.natAbs_natCast] at this
 have d1:y ∣ ld p d:=by
  have:y ∣ x.natAbs*ld p d:=⟨(lp p d).natAbs,by rw[<- en,Nat.mul_comm]⟩;exact(Nat.Coprime.symm hc).dvd_of_dvd_mul_left this
 have d2:ld p d ∣ y:=by
  have:ld p d ∣ (lp p d).natAbs*y:=⟨x.natAbs,by rw[en,Nat.mul_comm]⟩;exact(Nat.Coprime.symm a0).dvd_of_dvd_mul_left this
 have ey:=Nat.dvd_antisymm d1 d2;refine⟨?_,ey.symm⟩;rw[<- ey] at e;exact Int.eq_of_mul_eq_mul_right (by omega) e
theorem q4A{p q:Int}{d e:Nat}(hd:0<d)(he:0<e)(h:p*e=q*d):lp p d=lp q e/\ld p d=ld q e:=by
 have:=q49 (x:=lp q e) (y:=ld q e) (p:=p) (d:=d) hd (q1m he) (q2z he) ?_
 ·exact⟨this.1,this.2⟩
 ·have k:=q0W q e;have:(e:Int)*(lp q e*d)=e*(p*ld q e):=by
   calc (e:Int)*(lp q e*d)=lp q e*e*d:=by grind
    _=q*ld q e*d:=by rw[k]
    _=q*d*ld q e:=by grind
    _=p*e*ld q e:=by rw[h]
    _=_:=by grind
  exact Int.eq_of_mul_eq_mul_left (by omega) this
theorem q2Z{p:Int}{d:Nat}(hd:0<d)(hc:Nat.gcd p.natAbs d=1):lp p d=p/\ld p d=d:=q49 hd hd hc rfl
theorem q7T(p:Int):lp p 1=p:=(q2Z (by omega) (Nat.gcd_one_right _)).1
theorem q8X(p:Int):ld p 1=1:=(q2Z (by omega) (Nat.gcd_one_right _)).2
theorem q7N{b:Bool}{N D:Nat}(hD:0<D):Nat.gcd (sg b (N/Nat.gcd N D)).natAbs (D/Nat.gcd N D)=1/\sg b (N/Nat.gcd N D)*(D:Int)=sg b N*(D/Nat.gcd N D:Nat):=by
 refine⟨by rw[q0R];exact Nat.gcd_div_gcd_div_gcd_of_pos_right hD,?_⟩;have hg:=q0B (n:=N) hD;have g1:=Nat.gcd_dvd_left N D;have g2:=Nat.gcd_dvd_right N D;obtain⟨x,hx⟩:=g1;obtain⟨y,hy⟩:=g2;generalize Nat.gcd N D=G at *
 have e:N/G*D=N*(D/G):=by rw[hx,hy,Nat.mul_div_cancel_left _ hg,Nat.mul_div_cancel_left _ hg];grind
 have e':((N/G:Nat):Int)*D=(N:Int)*(D/G:Nat):=by rw[<- Int.natCast_mul,e,Int.natCast_mul]
 cases b
 ·exact e'
 ·show -((N/G:Nat):Int)*D = -(N:Int)*(D/G:Nat);rw[Int.neg_mul,e',Int.neg_mul]
theorem q88{a b c d:Nat}(hb:0<b)(hd:0<d)(h1:Nat.gcd a b=1)(h2:Nat.gcd c d=1)(ha:0<a)(hc:0<c):
  Nat.gcd (a/Nat.gcd a d*(c/Nat.gcd c b)) (b/Nat.gcd c b*(d/Nat.gcd a d))=1/\(a/Nat.gcd a d*(c/Nat.gcd c b))*(b*d)=a*c*(b/Nat.gcd c b*(d/Nat.gcd a d)):=by
 have g1:=Nat.gcd_dvd_left a d;have g2:=Nat.gcd_dvd_right a d;have g3:=Nat.gcd_dvd_left c b;have g4:=Nat.gcd_dvd_right c b;have e1:Nat.Coprime (a/Nat.gcd a d) (d/Nat.gcd a d):=Nat.coprime_div_gcd_div_gcd (q0B hd);have e2:Nat.Coprime (c/Nat.gcd c b) (b/Nat.gcd c b):=Nat.coprime_div_gcd_div_gcd (q0B hb);have e3:Nat.Coprime (a/Nat.gcd a d) (b/Nat.gcd c b):=(Nat.Coprime.coprime_dvd_left (Nat.div_dvd_of_dvd g1) h1).coprime_dvd_right (Nat.div_dvd_of_dvd g4);have e4:Nat.Coprime (c/Nat.gcd c b) (d/Nat.gcd a d):=(Nat.Coprime.coprime_dvd_left (Nat.div_dvd_of_dvd g3) h2).coprime_dvd_right (Nat.div_dvd_of_dvd g2);refine⟨Nat.Coprime.mul_left (Nat.Coprime.mul_right e3 e1) (Nat.Coprime.mul_right e2 e4),?_⟩;obtain⟨x,hx⟩:=g1;obtain⟨y,hy⟩:=g2;obtain⟨u,hu⟩:=g3;obtain⟨v,hv⟩:=g4;have hg:=q0B (n:=a) hd;have hh:=q0B (n:=c) hb;generalize Nat.gcd a d=g at *
 generalize Nat.gcd c b=h at *
 subst hx hu;rw[hy,hv,Nat.mul_div_cancel_left _ hg,Nat.mul_div_cancel_left _ hg,Nat.mul_div_cancel_left _ hh,Nat.mul_div_cancel_left _ hh]
 grind
theorem q8r{m n:Int}{P Q:Nat}(hP:0<P)(hQ:0<Q)(h1:Nat.gcd m.natAbs P=1)(h2:Nat.gcd n.natAbs Q=1):
  let g:=Nat.gcd P Q
  let s:=m*(Q/g:Nat)+n*(P/g:Nat)
  let h:=Nat.gcd s.natAbs g
  Nat.gcd (s.natAbs/h) (P/g*(Q/h))=1/\sg (decide (s<0)) (s.natAbs/h)*(P*Q:Nat)=(m*Q+n*P)*(P/g*(Q/h):Nat):=by
 intro g s h;have hg:0<g:=q0B hQ;have gP:g ∣ P:=Nat.gcd_dvd_left P Q;have gQ:g ∣ Q:=Nat.gcd_dvd_right P Q;have a0:Nat.Coprime (P/g) (Q/g):=Nat.coprime_div_gcd_div_gcd hg;obtain⟨x,hx⟩:=gP;obtain⟨y,hy⟩:=gQ;have ex:P/g=x:=by rw[hx,Nat.mul_div_cancel_left _ hg]
 have ey:Q/g=y:=by rw[hy,Nat.mul_div_cancel_left _ hg]
 have es:s=m*y+n*x:=by show m*(Q/g:Nat)+n*(P/g:Nat)=_;rw[ex,ey]
 rw[ex,ey] at a0;have hh:0<h:=Nat.gcd_pos_of_pos_right _ hg;have hs:h ∣ s.natAbs:=Nat.gcd_dvd_left _ _;obtain⟨z,hz⟩:h ∣ g:=Nat.gcd_dvd_right _ _;have c1:Nat.Coprime s.natAbs x:=by
  have a1:Nat.Coprime m.natAbs x:=Nat.Coprime.coprime_dvd_right ⟨g,by rw[hx,Nat.mul_comm]⟩ h1;have a2:Nat.Coprime (m*y).natAbs x:=by rw[Int.natAbs_mul,Int.natAbs_natCast];exact Nat.Coprime.mul_left a1 a0.symm
  have k:Int.gcd s x=Int.gcd (m*y) x:=by rw[es,Int.gcd_add_mul_right_left]
  exact k.trans a2
 have c2:Nat.Coprime s.natAbs y:=by
  have a1:Nat.Coprime n.natAbs y:=Nat.Coprime.coprime_dvd_right ⟨g,by rw[hy,Nat.mul_comm]⟩ h2;have a2:Nat.Coprime (n*x).natAbs y:=by rw[Int.natAbs_mul,Int.natAbs_natCast];exact Nat.Coprime.mul_left a1 a0
  have k:Int.gcd s y=Int.gcd (n*x) y:=by rw[es,Int.add_comm,Int.gcd_add_mul_right_left]
  exact k.trans a2
 have eQ:Q/h=y*z:=by rw[hy,hz,Nat.mul_assoc,Nat.mul_div_cancel_left _ hh,Nat.mul_comm]
 have c3:Nat.Coprime (s.natAbs/h) z:=by
  have:Nat.Coprime (s.natAbs/h) (g/h):=Nat.coprime_div_gcd_div_gcd hh
  rwa [hz,Nat.mul_div_cancel_left _ hh] at this
 have dv:=Nat.div_dvd_of_dvd hs;rw[ex,eQ];refine⟨Nat.Coprime.mul_right (Nat.Coprime.coprime_dvd_left dv c1) (Nat.Coprime.mul_right (Nat.Coprime.coprime_dvd_left dv c2) c3),?_⟩;have e1:sg (decide (s<0)) (s.natAbs/h)*(h:Nat)=s:=by
  have:=q5u s g;exact this
 generalize sg (decide (s<0)) (s.natAbs/h)=S at *
 have e2:(m*Q+n*P)=g*s:=by
  rw[es];conv=>lhs;rw[hx,hy]
  simp only[Int.natCast_mul];grind
 rw[e2,<- e1]
 conv=>lhs;rw[hx,hy]
 rw[show(g:Int)=((h*z:Nat):Int) by rw[<- hz]];have e3:((g*x*(g*y):Nat):Int)=((h*z*x*(h*z*y):Nat):Int):=by rw[<- hz]
 rw[e3];simp only[Int.natCast_mul]
 grind
theorem q7F{m n s:Int}{P Q:Nat}(hP:0<P)(hQ:0<Q)(h1:Nat.gcd m.natAbs P=1)(h2:Nat.gcd n.natAbs Q=1)(hs:s=m*(Q/Nat.gcd P Q:Nat)+n*(P/Nat.gcd P Q:Nat)):
  Nat.gcd (s.natAbs/Nat.gcd s.natAbs (Nat.gcd P Q)) (P/Nat.gcd P Q*(Q/Nat.gcd s.natAbs (Nat.gcd P Q)))=1 /\
   sg (decide (s<0)) (s.natAbs/Nat.gcd s.natAbs (Nat.gcd P Q))*(P*Q:Nat)=(m*Q+n*P)*(P/Nat.gcd P Q*(Q/Nat.gcd s.natAbs (Nat.gcd P Q)):Nat):=by
 subst hs;exact q8r hP hQ h1 h2
def q1w(w:World)(A:Option Addr)(n c d:Nat):Prop:=(n=0/\d=1\/0<n/\Rd w A n c (toL d))/\∀a,A=some a->a.off=0
structure RatSh(w:World)(g:Nat):Prop where
 int:∃v,IntAt w g 0 v
 c2:∃x,w.cell? ⟨g,2,none⟩=some x
structure RatAt(w:World)(g:Nat)(p:Int)(d:Nat):Prop where
 num:IntAt w g 0 (lp p d)
 den:∃A n c,w.cell? ⟨g,2,none⟩=some (.slice A n c)/\q1w w A n c (ld p d)
 pos:0<d
theorem RatAt.lt{w:World}{g:Nat}{p:Int}{d:Nat}(h:RatAt w g p d):g<w.heap.size:=h.num.lt
theorem RatAt.sh{w:World}{g:Nat}{p:Int}{d:Nat}(h:RatAt w g p d):RatSh w g:=⟨⟨_,h.num⟩,by obtain⟨A,n,c,e,-⟩:=h.den;exact⟨_,e⟩⟩
theorem RatAt.cross{w:World}{g:Nat}{p q:Int}{d e:Nat}(h:RatAt w g p d)(he:0<e)(hx:p*e=q*d):RatAt w g q e:=by
 obtain⟨e1,e2⟩:=q4A h.pos he hx;exact⟨by rw[<- e1];exact h.num,by rw[<- e2];exact h.den,he⟩
theorem q1w.below{B:Nat}{w w':World}{A:Option Addr}{n c d:Nat}(h:q1w w A n c d)(hb:Below B w w')(hB:B=w.heap.size):q1w w' A n c d:=
 ⟨h.1.imp id fun k=>⟨k.1,k.2.below hb hB⟩,h.2⟩
theorem q1w.fs{l:List Ob}{w w':World}{A:Option Addr}{n c d:Nat}(h:q1w w A n c d)(hf:Fs l w w'):q1w w' A n c d:=
 ⟨h.1.imp id fun k=>⟨k.1,k.2.fs h.2 hf⟩,h.2⟩
theorem q1w.like{w w':World}{A:Option Addr}{n c d:Nat}(h:q1w w A n c d)(e:w'.heap=w.heap):q1w w' A n c d:=
 ⟨h.1.imp id fun k=>⟨k.1,k.2.like e⟩,h.2⟩
theorem RatSh.below{w w':World}{g:Nat}(h:RatSh w g)(hb:Below w.heap.size w w'):RatSh w' g:=by
 obtain⟨⟨v,hv⟩,x,hx⟩:=h;exact⟨⟨v,hv.below hb⟩,x,(hb.cell (p:=⟨g,2,none⟩) hv.lt).trans hx⟩
theorem RatAt.below{w w':World}{g:Nat}{p:Int}{d:Nat}(h:RatAt w g p d)(hb:Below w.heap.size w w'):RatAt w' g p d:=by
 obtain⟨A,n,c,e,hd⟩:=h.den;exact⟨h.num.below hb,⟨A,n,c,(hb.cell (p:=⟨g,2,none⟩) h.lt).trans e,hd.below hb rfl⟩,h.pos⟩
theorem RatAt.like{w w':World}{g:Nat}{p:Int}{d:Nat}(h:RatAt w g p d)(e:w'.heap=w.heap):RatAt w' g p d:=by
 obtain⟨A,n,c,e1,hd⟩:=h.den;exact⟨h.num.like e,⟨A,n,c,by rw[<- e1];simp only[World.cell?,e],hd.like e⟩,h.pos⟩
theorem RatAt.drew{w:World}{g:Nat}{p:Int}{d:Nat}(h:RatAt w g p d):RatAt w.drew g p d:=h.like rfl
theorem RatSh.like{w w':World}{g:Nat}(h:RatSh w g)(e:w'.heap=w.heap):RatSh w' g:=by
 obtain⟨⟨v,hv⟩,x,hx⟩:=h;exact⟨⟨v,hv.like e⟩,x,by rw[<- hx];simp only[World.cell?,e]⟩
theorem RatAt.fs{l:List Ob}{w w':World}{g:Nat}{p:Int}{d:Nat}(h:RatAt w g p d)(hf:Fs l w w')(hne:∀q∈l,q.1≠g):RatAt w' g p d:=by
 obtain⟨A,n,c,e,hd⟩:=h.den;exact⟨h.num.fs hf (fun q hq k=>absurd k (hne q hq)),⟨A,n,c,(hf.cell g 2 h.lt fun q hq k=>absurd k (hne q hq)).trans e,hd.fs hf⟩,h.pos⟩
theorem RatAt.fs1{w w':World}{g g' o' k:Nat}{p:Int}{d:Nat}(h:RatAt w g p d)(hf:Fs [(g',o',k)] w w')(hne:g'≠g):RatAt w' g p d:=h.fs hf fun q hq=>by rw[List.mem_singleton.1 hq];exact hne
theorem RatSh.num{w w':World}{g:Nat}{u:Int}{e:Ending}(h:RatSh w g)(hP:q5Y g 0 u w e w'):IntAt w' g 0 u/\∃x,w'.cell? ⟨g,2,none⟩=some x:=by
 obtain⟨⟨v,hv⟩,x,hx⟩:=h;exact⟨hP.2.1,x,(hP.2.2.cell g 2 hv.lt fun p hp _=>by rw[List.mem_singleton.1 hp];right;exact lr).trans hx⟩
theorem Fs.set2{w:World}{g:Nat}{v:Int}(h:IntAt w g 0 v)(s:Value):Fs [(g,2,1)] w (w.setCell ⟨g,2,none⟩ s):=by
 obtain⟨x,hx⟩:=h.head;refine⟨rfl,rfl,rfl,by simp [World.setCell],fun k _ hn=>Below.heap_setCell w ⟨g,2,none⟩ s k (fun e=>hn _ (List.mem_singleton.2 rfl) e.symm),fun k j _ hn=>q0t (fun e=>?_),fun k j _=>World.frozen?_setCell _ _ _ _,fun k _ hk=>?_,fun p hp _=>?_⟩
 ·injection e with e1 e2
  have:=hn (g,2,1) (List.mem_singleton.2 rfl) e1;simp only at this;omega
 ·obtain⟨y,hy⟩:=hk;exact⟨y,(q0t (fun e=>by injection e with _ e;omega)).trans hy⟩
 ·rw[List.mem_singleton.1 hp];exact⟨x,hx⟩
theorem IntAt.set2{w:World}{g:Nat}{v:Int}(h:IntAt w g 0 v)(s:Value):IntAt (w.setCell ⟨g,2,none⟩ s) g 0 v:=
 h.fs (Fs.set2 h s) fun p hp _=>by rw[List.mem_singleton.1 hp];left;exact lr
theorem RatAt.made{w:World}{g n c d:Nat}{p x:Int}{y:Nat}{A:Option Addr}(h:IntAt w g 0 x)(hc:∃z,w.cell? ⟨g,2,none⟩=some z)(hd:q1w w A n c y)(hp:0<d)(hy:0<y)(h1:Nat.gcd x.natAbs y=1)(h2:x*d=p*y):RatAt (w.setCell ⟨g,2,none⟩ (.slice A n c)) g p d:=by
 obtain⟨e1,e2⟩:=q49 hp hy h1 h2;obtain⟨z,hz⟩:=hc;exact⟨by rw[e1];exact h.set2 _,⟨A,n,c,q0G hz,by rw[e2];exact hd.fs (Fs.set2 h _)⟩,hp⟩
theorem fs3{w w':World}{g:Nat}(h:Fs [(g,0,2),(g,2,1)] w w'):Fs [(g,0,3)] w w':=
 ⟨h.os,h.tape,h.output,h.size,fun k hk hn=>h.block k hk fun p hp=>by
   simp only[List.mem_cons,List.not_mem_nil,or_false] at hp;rcases hp with rfl|rfl<;>exact hn (g,0,3) (List.mem_singleton.2 rfl),
  fun k j hk hn=>h.cell k j hk fun p hp e=>by
   have:=hn (g,0,3) (List.mem_singleton.2 rfl);simp only[List.mem_cons,List.not_mem_nil,or_false] at hp;rcases hp with rfl|rfl<;>(have:=this e;simp only at this ⊢;omega),
  h.frozen,h.head,fun p hp hlt=>by
   rw[List.mem_singleton.1 hp] at hlt ⊢;exact h.obj (g,0,2) (by simp) hlt⟩
theorem q8i{w w':World}{g:Nat}(h:Fs [(g,0,2)] w w'):Fs [(g,0,3)] w w':=
 ⟨h.os,h.tape,h.output,h.size,fun k hk hn=>h.block k hk fun p hp=>by rw[List.mem_singleton.1 hp];exact hn (g,0,3) (List.mem_singleton.2 rfl),
  fun k j hk hn=>h.cell k j hk fun p hp e=>by
   have:=hn (g,0,3) (List.mem_singleton.2 rfl);rw[List.mem_singleton.1 hp] at e ⊢;have:=this e;simp only at this ⊢;omega,
  h.frozen,h.head,fun p hp hlt=>by
   rw[List.mem_singleton.1 hp] at hlt ⊢;exact h.obj (g,0,2) (by simp) hlt⟩
def q2E(g:Nat)(p:Int)(d:Nat)(w:World)(e:Ending)(w':World):Prop:=e=.returned (.pointer (some ⟨g,0,none⟩))/\RatAt w' g p d/\Fs [(g,0,3)] w w'
theorem q2E.below{g B d:Nat}{p:Int}{a w w':World}{e:Ending}(h:q2E g p d w e w')(hb:Below B a w)(hB:B<=w.heap.size)(hg:B<=g):Below B a w':=
 h.2.2.below hb hB (fun p hp=>by rw[List.mem_singleton.1 hp];exact hg)
theorem Fs.after{l:List Ob}{a w w':World}(h:Fs l w w')(hb:Below a.heap.size a w):Fs l a w':=
 ((Fs.of_nil hb).trans h).drop (fun p hp _=>hp) (fun p hp=>hp)
def q1h(p:Int)(d:Nat)(w:World)(e:Ending)(w':World):Prop:=∃g,e=.returned (.pointer (some ⟨g,0,none⟩))/\w.heap.size<=g/\RatAt w' g p d/\Below w.heap.size w w'
theorem RatAt.zero(w:World)(t:TypeId):RatAt (w.alloc (.cells #[.bool false,.slice none 0 0,.slice none 0 0] t)) w.heap.size 0 1:=by
 have hi:IntAt (w.alloc (.cells #[.bool false,.slice none 0 0,.slice none 0 0] t)) w.heap.size 0 0:=
  ⟨by simp,⟨false,by simp only[World.cell?];rw[heap_alloc_new];rfl⟩,fun j=>by simp only[World.frozen?];rw[heap_alloc_new];simp,none,0,0,by simp only[World.cell?];rw[heap_alloc_new];rfl,by simp only[World.cell?];rw[heap_alloc_new];rfl,by
   have:toL (0:Int).natAbs=[]:=rfl;rw[this];exact Rd.nil _,fun a e=>by cases e⟩
 exact⟨by rw[q52];exact hi,⟨none,0,0,by simp only[World.cell?];rw[heap_alloc_new];rfl,.inl ⟨rfl,q8e (by omega)⟩,fun a e=>by cases e⟩,by omega⟩
theorem Rd.den{w:World}{A:Option Addr}{n c d:Nat}(h:Rd w A n c (toL d))(hd:0<d)(hz:∀a,A=some a->a.off=0):q1w w A n c d:=by
 refine⟨.inr ⟨?_,h⟩,hz⟩;rcases Nat.eq_zero_or_pos n with rfl|hn
 ·have:=q07.1 h.words;omega
 ·exact hn
theorem q1w.nil(w:World):q1w w none 0 0 1:=⟨.inl ⟨rfl,rfl⟩,fun a e=>by cases e⟩
theorem q8b{p u:Int}{d:Nat}(h:u.natAbs=p.natAbs):(lp u d).natAbs=(lp p d).natAbs/\ld u d=ld p d:=by
 rw[q5v,q5v,h];exact⟨rfl,by unfold ld;rw[h]⟩
theorem RatAt.resign{w:World}{g:Nat}{p:Int}{d:Nat}(h:RatAt w g p d)(u:Int)(hu:u.natAbs=p.natAbs):RatAt (w.setCell ⟨g,0,none⟩ (.bool (decide (u<0)))) g u d/\Fs [(g,0,3)] w (w.setCell ⟨g,0,none⟩ (.bool (decide (u<0)))):=by
 obtain⟨A,n,c,h0,h1,hr,hz⟩:=h.num.ex;have hf:Fm g 0 w (w.setCell ⟨g,0,none⟩ (.bool (decide (u<0)))):=Fm.set0 _ _ (.inl rfl);obtain⟨e1,e2⟩:=q8b (d:=d) hu;have hI:IntAt (w.setCell ⟨g,0,none⟩ (.bool (decide (u<0)))) g 0 (lp u d):=by
  refine⟨Nat.lt_of_lt_of_le h.num.lt hf.size,⟨_,q0G h0⟩,fun j=>by rw[hf.frozen];exact h.num.fz j,A,n,c,?_,?_,?_,hz⟩
  ·rw[show decide (lp u d<0)=decide (u<0) by rw[decide_eq_decide];exact q2i h.pos];exact q0G h0
  ·exact(q0t (fun e=>by injection e with _ e;omega)).trans h1
  ·rw[e1];exact hr.fm hf (hr.apart hz h.num.head)
 have hF:=hf.fs h.num hI;obtain⟨A',n',c',e,hd⟩:=h.den;refine⟨⟨hI,⟨A',n',c',?_,by rw[e2];exact hd.fs hF⟩,h.pos⟩,q8i hF⟩;exact(q0t (fun e=>by injection e with _ e;omega)).trans e
theorem q1w.rd{w:World}{A:Option Addr}{n c d:Nat}(h:q1w w A n c d):∃xs,Rd w A n c xs/\(n=0/\d=1/\xs=[]\/0<n/\xs=toL d):=by
 rcases h.1 with ⟨rfl,rfl⟩|⟨hn,hr⟩
 ·exact⟨[],⟨rfl,Nat.zero_le _,Nat.zero_le _,q0K,fun h=>absurd h (by omega)⟩,.inl ⟨rfl,rfl,rfl⟩⟩
 ·exact⟨_,hr,.inr ⟨hn,rfl⟩⟩
theorem q1w.of_copy{w:World}{A:Option Addr}{n c d:Nat}{xs:List Nat}(h:Rd w A n c xs)(hd:n=0/\d=1/\xs=[]\/0<n/\xs=toL d)(hz:∀a,A=some a->a.off=0):q1w w A n c d:=by
 refine⟨?_,hz⟩;rcases hd with ⟨e1,e2,-⟩|⟨hn,rfl⟩
 ·exact .inl ⟨e1,e2⟩
 ·exact .inr ⟨hn,h⟩
theorem q3j{N d:Nat}(hN:0<N)(hd:0<d):Nat.gcd (ld N d) (lp N d).natAbs=1/\((ld N d:Nat):Int)*(N:Nat)=(d:Int)*((lp N d).natAbs:Nat)/\0<(lp (N:Int) d).natAbs:=by
 have h:=q2z (p:=(N:Int)) hd;have k:=q0W (N:Int) d;have z:=q2i (p:=(N:Int)) hd;have z0:=q2F (p:=(N:Int)) (d:=d);refine⟨by rw[Nat.gcd_comm];exact h,?_,by omega⟩;have:((lp (N:Int) d).natAbs:Int)=lp (N:Int) d:=by omega
 rw[this,Int.mul_comm (d:Int),k,Int.mul_comm]
def Sm(n:Nat):Prop:=bl n<=4294967296
theorem q0z(a b:Nat):bl (a*b)<=bl a+bl b:=q15 (by rw[Nat.pow_add];exact Nat.mul_lt_mul'' (q1C a) (q1C b))
theorem q4O(a b:Nat):bl (a+b)<=max (bl a) (bl b)+1:=q15 (by
 have h1:=q1C a;have h2:=q1C b;have h3:2^bl a<=2^max (bl a) (bl b):=Nat.pow_le_pow_right (by omega) (Nat.le_max_left _ _);have h4:2^bl b<=2^max (bl a) (bl b):=Nat.pow_le_pow_right (by omega) (Nat.le_max_right _ _);rw[Nat.pow_succ];omega)
theorem Sm.sz{n:Nat}(h:Sm n):Sz n:=by unfold Sm at h;unfold Sz;omega
theorem Sm.mono{a b:Nat}(h:Sm b)(hab:a<=b):Sm a:=Nat.le_trans (q5a hab) h
theorem Sm.mul{a b:Nat}(h:Sm a)(k:Sm b):Sz (a*b):=by
 have:=q0z a b;unfold Sm at h k;unfold Sz;omega
end Go.Proofs.YtcdimmblnbkjjaaGreatDoor
namespace Go.Proofs.YtcdimmblnbkjjaaGreatDoor
open Go
theorem q48{m X Y:Nat}(hX:0<X)(h:Y=X):lp ((m*Y:Nat):Int) X=m:=by
 subst h;have:=(q4A (p:=((m*Y:Nat):Int)) (q:=(m:Int)) (d:=Y) (e:=1) hX (by omega) (by rw[Int.natCast_mul];simp)).1;rw[this,q7T]
theorem q4B{E F m:Nat}{l:Int}(hE:2<=E)(h1:1-q09 E<=l)(h2:1-q09 E<l->2^F<=m):
  q0J (m*p2 (l-F)*p2 (q09 E-1)) (p2 (1-q09 E)*p2 (F-l))<0↔l=1-q09 E/\m<2^F:=by
 have h3:=q0X hE;have k:=q6S m 1 (l-F) (1-q09 E);rw[Nat.one_mul,show -(1-q09 E)=q09 E-1 by omega,show -(l-(F:Int))=F-l by omega] at k;rw[k,q2T,Nat.one_mul];rcases Int.lt_or_le (1-q09 E) l with h|h
 ·have hm:=h2 h
  constructor
  ·intro k
   exfalso
   have h4:p2 (1-q09 E-(l-F))<=p2 (F:Int):=q4X (by omega);rw[q1A] at h4;have h5:m*1<=m*p2 (l-F-(1-q09 E)):=Nat.mul_le_mul_left _ (q0o _);omega
  ·rintro⟨k,-⟩;omega
 ·obtain rfl:l=1-q09 E:=by omega
  rw[q0k (n:=1-q09 E-F-(1-q09 E)) (by omega),show 1-q09 E-(1-q09 E-(F:Int))=F by omega,q1A,Nat.mul_one];exact⟨fun k=>⟨rfl,k⟩,fun k=>k.2⟩
theorem q6i{E F m:Nat}(hE:2<=E):lp ((m*p2 (1-q09 E-F)*p2 (q09 E-1+F):Nat):Int) (p2 (F-(1-q09 E))*p2 (-(q09 E-1+F)))=m:=by
 have h3:=q0X hE;rw[Nat.mul_assoc];refine q48 (Nat.mul_pos (q0o _) (q0o _)) ?_;rw[q0k (n:=1-q09 E-F) (by omega),q0k (n:=-(q09 E-1+F)) (by omega),Nat.one_mul,Nat.mul_one];congr 1;omega
theorem q5o{F m:Nat}{l:Int}(h1:2^F<=m)(h2:m<2^(F+1)):q0H (m*p2 (l-F)) (p2 (F-l))=l:=by
 have hm:0<m:=Nat.lt_of_lt_of_le (Nat.two_pow_pos F) h1;refine(q0U (Nat.mul_pos hm (q0o _)) (q0o _)).uniq ?_;have k:=q2M (l-F) (-l);rw[show l-(F:Int) + -l = -F by omega,show -(l-(F:Int))=F-l by omega,show -(-l)=l by omega,show -(-(F:Int))=F by omega,q0k (n:=-(F:Int)) (by omega),Nat.one_mul,q1A] at k;have e1:m*p2 (l-F)*p2 (-l)=m*(p2 (l-F)*p2 (-l)):=Nat.mul_assoc _ _ _;have hp:0<p2 (l-F)*p2 (-l):=Nat.mul_pos (q0o _) (q0o _)
 constructor
 ·rw[k,e1];exact Nat.mul_le_mul_right _ h1
 ·rw[k,e1,show 2*(2^F*(p2 (l-F)*p2 (-l)))=2^(F+1)*(p2 (l-F)*p2 (-l)) by rw[Nat.pow_succ];grind];exact Nat.mul_lt_mul_of_pos_right h2 hp
theorem q6w{F:Nat}{l:Int}:q0H (2^(F+1)*p2 (l-F)) (p2 (F-l))=l+1:=by
 have k:=q2M (l-F) 1;rw[show l-(F:Int)+1=l+1-F by omega,show -(l-(F:Int))=F-l by omega,show -(l+1-(F:Int))=F-(l+1) by omega,show p2 (-1)=1 from rfl,show p2 1=2 from rfl,Nat.mul_one] at k;rw[<- q5o (F:=F) (m:=2^F) (l:=l+1) lr (by rw[Nat.pow_succ];have:=Nat.two_pow_pos F;omega)];refine q3K (Nat.mul_pos (Nat.two_pow_pos _) (q0o _)) (q0o _) (q0o _) ?_
 calc 2^(F+1)*p2 (l-F)*p2 (F-(l+1))=2^F*(p2 (F-(l+1))*(p2 (l-F)*2)):=by rw[Nat.pow_succ];grind
  _=2^F*(p2 (l+1-F)*p2 (F-l)):=by rw[k]
  _=_:=by grind
theorem q7j{F m:Nat}{l:Int}:lp ((m*p2 (l-F)*p2 (F-l):Nat):Int) (p2 (F-l)*p2 (-(F-l)))=m:=by
 rw[Nat.mul_assoc];refine q48 (Nat.mul_pos (q0o _) (q0o _)) ?_;rw[show -((F:Int)-l)=l-F by omega,Nat.mul_comm]
theorem q6v{F:Nat}{l:Int}:lp ((2^(F+1)*p2 (l-F)*p2 (F-(l+1)):Nat):Int) (p2 (F-l)*p2 (-(F-(l+1))))=(2^F:Nat):=by
 have k:=q2M (l-F) 1;rw[show l-(F:Int)+1=l+1-F by omega,show -(l-(F:Int))=F-l by omega,show -(l+1-(F:Int))=F-(l+1) by omega,show p2 (-1)=1 from rfl,show p2 1=2 from rfl,Nat.mul_one] at k;rw[show 2^(F+1)*p2 (l-F)*p2 (F-(l+1))=2^F*(2*p2 (l-F)*p2 (F-(l+1))) by rw[Nat.pow_succ];grind];refine q48 (Nat.mul_pos (q0o _) (q0o _)) ?_;rw[show -((F:Int)-(l+1))=l+1-F by omega,Nat.mul_comm (p2 (F-l)),k]
 grind
theorem q8d{a b:Nat}{e:Int}(ha:0<a)(hb:0<b)(h:b*p2 e<=a*p2 (-e)):e<=q0H a b:=by
 rcases Int.lt_or_le (q0H a b) e with k|k
 ·have:=q2Y k (q0U ha hb).2;omega
 ·exact k
theorem q8g{a b:Nat}{e:Int}(ha:0<a)(hb:0<b)(h:a*p2 (-e)<b*p2 e):q0H a b<e:=by
 rcases Int.lt_or_le (q0H a b) e with k|k
 ·exact k
 ·have:=q7q k (q0U ha hb).1;omega
theorem q86{E F:Nat}{neg:Bool}{mode a b:Nat}(h:q09 E<q0H a b):out E F neg mode a b=(if q0T neg mode then q1P E F-1 else q1P E F,3):=by
 have:q2N E F neg mode a b=true:=by
  unfold q2N q0E;rw[Bool.or_eq_true,decide_eq_true_iff]
  left;omega
 unfold out;rw[if_pos this]
theorem q7l{E F:Nat}{neg:Bool}{mode a b:Nat}(hE:2<=E)(hF:1<=F)(ha:0<a)(hb:0<b)(h:q0H a b < -q09 E-F-1):out E F neg mode a b=(if q3A neg mode false (-1) then 1 else 0,5):=by
 have h3:=q0X hE;have hl:q0E E a b=1-q09 E:=by unfold q0E;omega
 have hs:=(q0U ha hb).2;have hA:4*(a*p2 (F-(1-q09 E)))<b:=by
  have e1:p2 (-q0H a b)=8*p2 (F-(1-q09 E))*p2 (-q0H a b-(F-(1-q09 E))-3):=by
   have k1:=q1p (m:=3) (n:=F-(1-q09 E)) (by omega) (by omega);have k2:=q1p (m:=3+(F-(1-q09 E))) (n:=-q0H a b-(F-(1-q09 E))-3) (by omega) (by omega);rw[show(3:Int)+(F-(1-q09 E))+(-q0H a b-(F-(1-q09 E))-3) = -q0H a b by omega,k1] at k2;exact k2
  rw[q0k (n:=q0H a b) (by omega),Nat.mul_one,e1] at hs;have h4:=q0o (-q0H a b-(F-(1-q09 E))-3);have h5:a*(8*p2 (F-(1-q09 E)))*1<=a*(8*p2 (F-(1-q09 E)))*p2 (-q0H a b-(F-(1-q09 E))-3):=Nat.mul_le_mul_left _ h4;have h6:a*(8*p2 (F-(1-q09 E))*p2 (-q0H a b-(F-(1-q09 E))-3))=a*(8*p2 (F-(1-q09 E)))*p2 (-q0H a b-(F-(1-q09 E))-3):=by grind
  rw[h6] at hs;have h7:a*(8*p2 (F-(1-q09 E)))=8*(a*p2 (F-(1-q09 E))):=by grind
  omega
 have a1:0<a*p2 (F-(1-q09 E)):=Nat.mul_pos ha (q0o _);have hr:q40 E F a b=a*p2 (F-(1-q09 E)):=by
  unfold q40;rw[hl,q0k (n:=1-q09 E-F) (by omega),Nat.mul_one];exact Nat.mod_eq_of_lt (by omega)
 have hm:q2h E F neg mode a b=if q3A neg mode false (-1) then 1 else 0:=by
  unfold q2h rnd;rw[hl,q0k (n:=1-q09 E-F) (by omega),Nat.mul_one,Nat.mod_eq_of_lt (by omega),Nat.div_eq_of_lt (by omega),if_neg (by omega),q1u (by omega)]
  rfl
 have a0:q1D E F neg mode a b=if q3A neg mode false (-1) then 1 else 0:=by
  unfold q1D;rw[hm,hl,show(1-q09 E+q09 E-1).toNat=0 by omega];simp
 have hi:=q7V (F:=F) hE;have a2:2^1<=2^F:=Nat.pow_le_pow_right (by omega) hF;have ho:q2N E F neg mode a b=false:=by
  unfold q2N;rw[a0,hl,Bool.or_eq_false_iff,decide_eq_false_iff_not,decide_eq_false_iff_not];refine⟨by omega,?_⟩;have h8:3*((2^F:Nat):Int)<=(2*q09 E+1)*(2^F:Nat):=Int.mul_le_mul_of_nonneg_right (by omega) (by omega);split<;>omega
 have hu:q2g E F neg mode a b=true:=by
  unfold q2g;rw[Bool.and_eq_true,Bool.or_eq_true,decide_eq_true_iff,decide_eq_true_iff];exact⟨by omega,.inl (by omega)⟩
 unfold out q1e;rw[ho,if_neg (by decide),a0,hr,if_neg (show ¬a*p2 (F-(1-q09 E))=0 by omega),hu,if_pos rfl]
def q2u(n K:Int):Int:=max (-K) (min n K)
theorem q5q{E F:Nat}{neg:Bool}{mode:Nat}(f g:Int->Nat)(K n:Int)(hE:2<=E)(hE':E<=11)(hF:1<=F)(hF':F<=52)(hK:0<=K)(hf:∀n,0<f n)(hg:∀n,0<g n)
  (h1:∀n,K<=n->g n*p2 1200<=f n) (h2:∀n,n <= -K->f n*p2 1200<g n):out E F neg mode (f (q2u n K)) (g (q2u n K))=out E F neg mode (f n) (g n):=by
 have hb:=q1S hE';have big:∀n,K<=n->out E F neg mode (f n) (g n)=(if q0T neg mode then q1P E F-1 else q1P E F,3):=fun n hn=>by
  have:=q8d (e:=1200) (hf n) (hg n) (by rw[q0k (n:=-1200) (by omega),Nat.mul_one];exact h1 n hn);exact q86 (by omega)
 have tiny:∀n,n <= -K->out E F neg mode (f n) (g n)=(if q3A neg mode false (-1) then 1 else 0,5):=fun n hn=>by
  have:=q8g (e:=-1200) (hf n) (hg n) (by rw[q0k (n:=-1200) (by omega),Nat.mul_one];exact h2 n hn);exact q7l hE hF (hf n) (hg n) (by omega)
 unfold q2u;rcases Int.lt_or_le n (-K) with h|h
 ·rw[show max (-K) (min n K) = -K by omega,tiny _ (Int.le_refl _),tiny _ (by omega)]
 ·rcases Int.lt_or_le K n with h'|h'
  ·rw[show max (-K) (min n K)=K by omega,big _ (Int.le_refl _),big _ (by omega)]
  ·rw[show max (-K) (min n K)=n by omega]
theorem q6u(x:Nat)(y:Int):2^x*p2 y=2^(x+y.toNat):=by unfold p2;rw[Nat.pow_add]
theorem q7J(k:Nat):2^k<=10^k:=Nat.pow_le_pow_left (by omega) k
def t10(n:Int):Nat:=10^n.toNat
theorem q39(n:Int):0<t10 n:=Nat.pow_pos (by omega)
theorem q6A{E F:Nat}{neg:Bool}{mode a b:Nat}(c:Int)(n:Int)(hE:2<=E)(hE':E<=11)(hF:1<=F)(hF':F<=52)(ha:0<a)(hb:0<b)(hc:1200<=c):
  out E F neg mode (a*t10 (q2u n (bl a+bl b+c))) (b*t10 (-q2u n (bl a+bl b+c)))=out E F neg mode (a*t10 n) (b*t10 (-n)):=by
 refine q5q (fun n=>a*t10 n) (fun n=>b*t10 (-n)) _ n hE hE' hF hF' (by omega) (fun n=>Nat.mul_pos ha (q39 _)) (fun n=>Nat.mul_pos hb (q39 _)) (fun n hn=>?_) (fun n hn=>?_)
 ·have h1:t10 (-n)=1:=by unfold t10;rw[show(-n).toNat=0 by omega]
  show b*t10 (-n)*p2 1200<=a*t10 n;rw[h1,Nat.mul_one]
  calc b*p2 1200<=2^bl b*p2 1200:=Nat.mul_le_mul (Nat.le_of_lt (q1C b)) lr
   _=2^(bl b+(1200:Int).toNat):=q6u _ _
   _<=2^n.toNat:=Nat.pow_le_pow_right (by omega) (by omega)
   _<=t10 n:=q7J _
   _<=a*t10 n:=Nat.le_mul_of_pos_left _ ha
 ·have h1:t10 n=1:=by unfold t10;rw[show n.toNat=0 by omega]
  show a*t10 n*p2 1200<b*t10 (-n);rw[h1,Nat.mul_one]
  calc a*p2 1200<2^bl a*p2 1200:=Nat.mul_lt_mul_of_pos_right (q1C a) (q0o _)
   _=2^(bl a+(1200:Int).toNat):=q6u _ _
   _<=2^(-n).toNat:=Nat.pow_le_pow_right (by omega) (by omega)
   _<=t10 (-n):=q7J _
   _<=b*t10 (-n):=Nat.le_mul_of_pos_left _ hb
theorem q6z{E F:Nat}{neg:Bool}{mode a:Nat}(c:Int)(n:Int)(hE:2<=E)(hE':E<=11)(hF:1<=F)(hF':F<=52)(ha:0<a)(hc:1200<=c):
  out E F neg mode (a*p2 (q2u n (bl a+c))) (p2 (-q2u n (bl a+c)))=out E F neg mode (a*p2 n) (p2 (-n)):=by
 refine q5q (fun n=>a*p2 n) (fun n=>p2 (-n)) _ n hE hE' hF hF' (by omega) (fun n=>Nat.mul_pos ha (q0o _)) (fun n=>q0o _) (fun n hn=>?_) (fun n hn=>?_)
 ·show p2 (-n)*p2 1200<=a*p2 n;rw[q0k (n:=-n) (by omega),Nat.one_mul]
  calc p2 1200<=p2 n:=q4X (by omega)
   _<=a*p2 n:=Nat.le_mul_of_pos_left _ ha
 ·show a*p2 n*p2 1200<p2 (-n);rw[q0k (n:=n) (by omega),Nat.mul_one]
  calc a*p2 1200<2^bl a*p2 1200:=Nat.mul_lt_mul_of_pos_right (q1C a) (q0o _)
   _=2^(bl a+(1200:Int).toNat):=q6u _ _
   _<=p2 (-n):=Nat.pow_le_pow_right (by omega) (by omega)
end Go.Proofs.YtcdimmblnbkjjaaGreatDoor
