/- Lemmas. -/
import Derived.Test.YtabcgemembkkcaaGreatDoorPartAH
import Derived.Test.YtabcgemembkkcaaGreatDoorPartAB
set_option linter.all false
open Go renaming World->qa,heap_alloc_new->qd,Addr->qk,Value->qp
open Decidable renaming decide->qb
open Option renaming none->qc,some->qe
open Nat renaming gcd_div_gcd_div_gcd_of_pos_right->qf,Coprime.mul_left->qh,Coprime.coprime_dvd_right->qi,gcd_pos_of_pos_right->qj,div_mul_cancel->qm,Coprime.symm->qn
open Go.RowKit renaming Below->qg
open Bool renaming false->ql,false_and->qo
namespace Go.Proofs.YtabcgemembkkcaaGreatDoor
variable{w w':qa}{a b g o c B n g' o' N k y d m P Q E F mode:Nat}{v u p q u1 u2 x l:Int}{A:Option qk}{xs:List Nat}{e:Ending}{neg:Bool}
section
open Go Go.RowKit
theorem q0t{a b:qk}{v:qp}(h:a≠b):(w.setCell a v).cell? b=w.cell? b:=World.cell?_setCell_other w a b v h
theorem q0r{a:qk}{u v:qp}(h:w.cell? a=qe u):(w.setCell a v).cell? a=qe v:=World.cell?_setCell_same w a v h
structure Fm(g o:Nat)(w w':qa):Prop where
 os:w'.os=w.os
 tape:w'.tape=w.tape
 output:w'.output=w.output
 size:w.heap.size<=w'.heap.size
 block:∀k,k<w.heap.size->k≠g->w'.heap[k]?=w.heap[k]?
 cell:∀j,j≠o->j≠o+1->w'.cell? ⟨g,j,qc⟩=w.cell? ⟨g,j,qc⟩
 frozen:∀j,w'.frozen? ⟨g,j,qc⟩=w.frozen? ⟨g,j,qc⟩
theorem Fm.refl(g o:Nat)(w:qa):Fm g o w w:=⟨rfl,rfl,rfl,lr,fun _ _ _=>rfl,fun _ _ _=>rfl,fun _=>rfl⟩
theorem Fm.trans{a b c:qa}(h:Fm g o a b)(k:Fm g o b c):Fm g o a c:=⟨k.os.trans h.os,k.tape.trans h.tape,k.output.trans h.output,k06 h.size k.size,fun i hi hn=>(k.block i (k02 hi h.size) hn).trans (h.block i hi hn),fun j h1 h2=>(k.cell j h1 h2).trans (h.cell j h1 h2),fun j=>(k.frozen j).trans (h.frozen j)⟩
theorem q0U{p:qk}(h:w'.heap[p.block]?=w.heap[p.block]?):w'.frozen? p=w.frozen? p:=by simp only[World.frozen?,h]
theorem Fm.of_below(h:qg w.heap.size w w')(hg:g<w.heap.size):Fm g o w w':=⟨h.os,h.tape,h.output,h.size,fun k hk _=>h.block k hk,fun j _ _=>World.cell?_of_block (h.block g hg),fun j=>q0U (p:=⟨g,j,qc⟩) (h.block g hg)⟩
theorem Fm.set0{j:Nat}(w:qa)(v:qp)(hp:j=o\/j=o+1):Fm g o w (w.setCell ⟨g,j,qc⟩ v):=⟨rfl,rfl,rfl,by simp [World.setCell],fun k _ hn=>Below.heap_setCell w ⟨g,j,qc⟩ v k (show k≠g from hn),fun i h1 h2=>q0t (fun e=>by injection e with _ e;omega),fun i=>World.frozen?_setCell _ _ _ _⟩
theorem Fm.drew(h:Fm g o w w'):Fm g o w w'.drew:=⟨h.os,h.tape,h.output,h.size,h.block,h.cell,h.frozen⟩
theorem Fm.undrew(h:Fm g o w.drew w'):Fm g o w w':=⟨h.os,h.tape,h.output,h.size,h.block,h.cell,h.frozen⟩
theorem Fm.below{a:qa}(hb:qg B a w)(h:Fm g o w w')(hB:B<=w.heap.size)(hg:B<=g):qg B a w':=⟨h.os.trans hb.os,h.tape.trans hb.tape,h.output.trans hb.output,k06 hb.size h.size,fun k hk=>(h.block k (by omega) (by omega)).trans (hb.block k hk)⟩
structure IntAt(w:qa)(g o:Nat)(v:Int):Prop where
 lt:g<w.heap.size
 head:∃x,w.cell? ⟨g,0,qc⟩=qe (.bool x)
 fz:∀j,w.frozen? ⟨g,j,qc⟩=ql
 ex:∃A n c,w.cell? ⟨g,o,qc⟩=qe (.bool (qb (v<0)))/\w.cell? ⟨g,o+1,qc⟩=qe (.slice A n c)/\Rd w A n c (toL v.natAbs)/\∀a,A=qe a->a.off=0
theorem Rd.apart(h:Rd w A n c xs)(h0:∀a,A=qe a->a.off=0)(hd:∃x,w.cell? ⟨g,0,qc⟩=qe (.bool x))(hn:0<n):∀a,A=qe a->a.block≠g:=by intro a e i;obtain⟨b,off,d,_,j⟩:=h.cell hn;obtain⟨x,hx⟩:=hd;rw[d] at e;cases e;have:=h0 _ d;subst i;have f:=j 0 hn;simp only at this;subst this;rw[hx] at f;cases f
theorem Rd.zero(h:Rd w A 0 c xs):Rd w' A 0 c xs:=⟨h.len,h.le,h.sm,h.lim,fun hn=>absurd hn (by omega)⟩
theorem Rd.fm(h:Rd w A n c xs)(hf:Fm g o w w')(hne:0<n->∀a,A=qe a->a.block≠g):Rd w' A n c xs:=⟨h.len,h.le,h.sm,h.lim,fun hn=>by obtain⟨b,off,e,hlt,hc⟩:=h.cell hn;refine⟨b,off,e,k02 hlt hf.size,fun j hj=>?_⟩;rw[<- hc j hj];exact World.cell?_of_block (a:=⟨b,off+j,qc⟩) (hf.block b hlt (hne hn _ e))⟩
theorem Fm.headAt(hf:Fm g o w w')(h':∃x,w'.cell? ⟨g,0,qc⟩=qe (.bool x))(hlt:g'<w.heap.size)(h:∃x,w.cell? ⟨g',0,qc⟩=qe (.bool x)):∃x,w'.cell? ⟨g',0,qc⟩=qe (.bool x):=by
 by_cases e:g'=g
 ·subst e;exact h'
 ·obtain⟨x,hx⟩:=h;exact⟨x,(World.cell?_of_block (a:=⟨g',0,qc⟩) (hf.block g' hlt e)).trans hx⟩
theorem IntAt.fm(h:IntAt w g' o' v)(hf:Fm g o w w')(hd:∃x,w.cell? ⟨g,0,qc⟩=qe (.bool x))(hd':∃x,w'.cell? ⟨g,0,qc⟩=qe (.bool x))(hne:g'≠g\/o'+1<o\/o+1<o'):IntAt w' g' o' v:=by
 obtain⟨A,n,c,b,d,f,i⟩:=h.ex;refine⟨k02 h.lt hf.size,hf.headAt hd' h.lt h.head,fun j=>?_,A,n,c,?_,?_,f.fm hf (f.apart i hd),i⟩
 ·by_cases e:g'=g
  ·subst e;rw[hf.frozen];exact h.fz j
  ·rw[<- h.fz j];exact q0U (p:=⟨g',j,qc⟩) (hf.block g' h.lt e)
 ·by_cases e:g'=g
  ·subst e;rw[hf.cell _ (by omega) (by omega)];exact b
  ·rw[<- b];exact World.cell?_of_block (a:=⟨g',o',qc⟩) (hf.block g' h.lt e)
 ·by_cases e:g'=g
  ·subst e;rw[hf.cell _ (by omega) (by omega)];exact d
  ·rw[<- d];exact World.cell?_of_block (a:=⟨g',o'+1,qc⟩) (hf.block g' h.lt e)
theorem IntAt.below(h:IntAt w g o v)(hb:qg w.heap.size w w'):IntAt w' g o v:=by obtain⟨A,n,c,a,b,d,e⟩:=h.ex;obtain⟨x,hx⟩:=h.head;exact⟨k02 h.lt hb.size,⟨x,(hb.cell (p:=⟨g,0,qc⟩) h.lt).trans hx⟩,fun j=>(q0U (p:=⟨g,j,qc⟩) (hb.block g h.lt)).trans (h.fz j),A,n,c,(hb.cell (p:=⟨g,o,qc⟩) h.lt).trans a,(hb.cell (p:=⟨g,o+1,qc⟩) h.lt).trans b,d.below hb rfl,e⟩
theorem IntAt.like(h:IntAt w g o v)(e:w'.heap=w.heap):IntAt w' g o v:=by obtain⟨A,n,c,a,b,d,f⟩:=h.ex;obtain⟨x,hx⟩:=h.head;exact⟨by rw[e];exact h.lt,⟨x,by rw[<- hx];simp only[World.cell?,e]⟩,fun j=>by rw[<- h.fz j];simp only[World.frozen?,e],A,n,c,by rw[<- a];simp only[World.cell?,e],by rw[<- b];simp only[World.cell?,e],d.like e,f⟩
theorem IntAt.drew(h:IntAt w g o v):IntAt w.drew g o v:=h.like rfl
def put(w:qa)(g o:Nat)(b:Bool)(s:qp):qa:=(w.setCell ⟨g,o+1,qc⟩ s).setCell ⟨g,o,qc⟩ (.bool b)
theorem q7g(w:qa)(g o:Nat)(b:Bool)(s:qp):Fm g o w (put w g o b s):=(Fm.set0 w s (.inr rfl)).trans (Fm.set0 _ _ (.inl rfl))
theorem q8H(h:IntAt w g o v)(b:Bool)(A:Option qk)(n c:Nat):∃x,(put w g o b (.slice A n c)).cell? ⟨g,0,qc⟩=qe (.bool x):=by
 obtain⟨a,d,f,i,j,k,l⟩:=h.ex;obtain⟨x,hx⟩:=h.head;rcases k01 o with rfl|m
 ·exact⟨b,q0r (u:=.bool x) ((q0t (fun e=>by injection e with _ e;omega)).trans hx)⟩
 ·refine⟨x,(q0t (fun e=>by injection e with _ e;omega)).trans ((q0t (fun e=>by injection e with _ e;omega)).trans hx)⟩
theorem IntAt.put(h:IntAt w g o v){b:Bool}(hb:b=qb (u<0))(hr:Rd w A n c (toL u.natAbs))(hz:∀a,A=qe a->a.off=0):IntAt (put w g o b (.slice A n c)) g o u:=by
 obtain⟨m,p,q,f,i,k,l⟩:=h.ex;have d:=q7g w g o b (.slice A n c);refine⟨k02 h.lt d.size,q8H h b A n c,fun j=>by rw[d.frozen];exact h.fz j,A,n,c,?_,?_,hr.fm d (hr.apart hz h.head),hz⟩
 ·rw[<- hb];exact q0r (u:=.bool (qb (v<0))) ((q0t (fun e=>by injection e with _ e;omega)).trans f)
 ·exact(q0t (fun e=>by injection e with _ e;omega)).trans (q0r i)
theorem q2D(h:0<=u):qb (u<0)=(ql && qb (0<N)):=by rw[qo,k11];omega
theorem qa4(u:Int):qb (u<0)=(qb (u<0) && qb (0<u.natAbs)):=by
 rcases k0L u 0 with h|h|h
 ·rw[k03 h,k2N,eq_comm,k1r];omega
 ·subst h;rfl
 ·rw[k00 (by omega),qo]
theorem sg_neg(u:Int):qb (-u<0)=(!qb (u<0) && qb (0<u.natAbs)):=by
 rcases k0L u 0 with h|h|h
 ·rw[k03 h,k00 (by omega)];rfl
 ·subst h;rfl
 ·rw[k00 (p:=u<0) (by omega),k2n,k2N,k03 (by omega),k03 (by omega)]
theorem q2E(u v:Int):qb (u*v<0)=(qb (u<0) != qb (v<0) && qb (0<u.natAbs*v.natAbs)):=by
 rcases k0L u 0 with h|h|h
 ·rcases k0L v 0 with k|k|k
  ·have:=Int.mul_pos_of_neg_of_neg h k;rw[k03 h,k03 k,k00 (by omega)];rfl
  ·subst k;simp
  ·have:=k2o h k;have a:0<u.natAbs*v.natAbs:=k0j (by omega) (by omega);rw[k03 h,k00 (p:=v<0) (by omega),k03 this,k03 a];rfl
 ·subst h;simp
 ·rcases k0L v 0 with k|k|k
  ·have:=Int.mul_neg_of_pos_of_neg h k;have a:0<u.natAbs*v.natAbs:=k0j (by omega) (by omega);rw[k00 (p:=u<0) (by omega),k03 k,k03 this,k03 a];rfl
  ·subst k;simp
  ·have:=Int.mul_pos h k;rw[k00 (p:=u<0) (by omega),k00 (p:=v<0) (by omega),k00 (by omega)];rfl
def q0C(g o:Nat)(u:Int)(w:qa)(e:Ending)(w':qa):Prop:=
 e=.returned (.pointer (qe ⟨g,o,qc⟩))/\IntAt w' g o u/\Fm g o w w'
def Sz(n:Nat):Prop:=bl n<=8796093022208
theorem Sz.words(h:Sz n):words n<=274877906944:=by
 rcases k01 n with rfl|a
 ·simp [q0w]
 ·obtain⟨e,_⟩:=bl_words a;have:=q3I (bl_words a).2;unfold Sz at h;omega
theorem Rd.sz(h:Rd w A n c (toL N))(hs:Sz N):n<=274877906944:=by rw[<- h.words];exact hs.words
def sg(b:Bool)(N:Nat):Int:=if b then -(N:Int) else(N:Int)
theorem q0v(b:Bool)(N:Nat):(sg b N).natAbs=N:=by cases b<;>simp [sg]
theorem q1l(b:Bool)(N:Nat):qb (sg b N<0)=(b && qb (0<N)):=by
 cases b
 ·simp [sg]
 ·simp only[sg,k2S,k2N];congr 1;apply propext;omega
theorem q4Q(u:Int):sg (qb (u<0)) u.natAbs=u:=by unfold sg;by_cases h:u<0<;>simp [h]<;>omega
theorem qbs(u:Int):sg (!qb (u<0)) u.natAbs = -u:=by unfold sg;by_cases h:u<0<;>simp [h]<;>omega
abbrev Ob:=Nat × Nat × Nat
structure Fs(l:List Ob)(w w':qa):Prop where
 os:w'.os=w.os
 tape:w'.tape=w.tape
 output:w'.output=w.output
 size:w.heap.size<=w'.heap.size
 block:∀k,k<w.heap.size->(∀p∈l,p.1≠k)->w'.heap[k]?=w.heap[k]?
 cell:∀k j,k<w.heap.size->(∀p∈l,p.1=k->j<p.2.1\/p.2.1+p.2.2<=j)->w'.cell? ⟨k,j,qc⟩=w.cell? ⟨k,j,qc⟩
 frozen:∀k j,k<w.heap.size->w'.frozen? ⟨k,j,qc⟩=w.frozen? ⟨k,j,qc⟩
 head:∀k,k<w.heap.size->(∃x,w.cell? ⟨k,0,qc⟩=qe (.bool x))->∃x,w'.cell? ⟨k,0,qc⟩=qe (.bool x)
 obj:∀p∈l,p.1<w.heap.size->∃x,w.cell? ⟨p.1,0,qc⟩=qe (.bool x)
theorem Fs.of_below(l:List Ob)(h:qg w.heap.size w w')(ho:∀p∈l,p.1<w.heap.size->∃x,w.cell? ⟨p.1,0,qc⟩=qe (.bool x)):Fs l w w':=⟨h.os,h.tape,h.output,h.size,fun k hk _=>h.block k hk,fun k j hk _=>World.cell?_of_block (a:=⟨k,j,qc⟩) (h.block k hk),fun k j hk=>q0U (p:=⟨k,j,qc⟩) (h.block k hk),fun k hk ⟨x,hx⟩=>⟨x,(World.cell?_of_block (a:=⟨k,0,qc⟩) (h.block k hk)).trans hx⟩,ho⟩
theorem Fs.of_nil(h:qg w.heap.size w w'):Fs [] w w':=Fs.of_below [] h (fun _ hp=>by cases hp)
theorem Fm.fs(h:Fm g o w w')(hv:IntAt w g o v)(hu:IntAt w' g o u):Fs [(g,o,2)] w w':=⟨h.os,h.tape,h.output,h.size,fun k hk hn=>h.block k hk (fun e=>hn _ (k0d.2 rfl) e.symm),fun k j hk hn=>by
   by_cases e:k=g
   ·subst e;have:j<o\/o+2<=j:=hn (k,o,2) (k0d.2 rfl) rfl;exact h.cell j (by omega) (by omega)
   ·exact World.cell?_of_block (a:=⟨k,j,qc⟩) (h.block k hk e),
  fun k j hk=>by
   by_cases e:k=g
   ·subst e;exact h.frozen j
   ·exact q0U (p:=⟨k,j,qc⟩) (h.block k hk e),
  fun k hk hx=>h.headAt hu.head hk hx,fun p hp _=>by rw[k0d.1 hp];exact hv.head⟩
theorem q0C.fs(h:q0C g o u w e w')(hv:IntAt w g o v):Fs [(g,o,2)] w w':=h.2.2.fs hv h.2.1
theorem Fs.trans{l l':List Ob}{a b c:qa}(h:Fs l a b)(k:Fs l' b c):Fs (l++l') a c:=⟨k.os.trans h.os,k.tape.trans h.tape,k.output.trans h.output,k06 h.size k.size,fun i hi hn=>(k.block i (k02 hi h.size) (fun p hp=>hn p (List.mem_append_right _ hp))).trans (h.block i hi (fun p hp=>hn p (List.mem_append_left _ hp))),fun i j hi hn=>(k.cell i j (k02 hi h.size) (fun p hp=>hn p (List.mem_append_right _ hp))).trans (h.cell i j hi (fun p hp=>hn p (List.mem_append_left _ hp))),fun i j hi=>(k.frozen i j (k02 hi h.size)).trans (h.frozen i j hi),fun i hi hx=>k.head i (k02 hi h.size) (h.head i hi hx),fun p hp hlt=>by
   rcases k2E.1 hp with hp|hp
   ·exact h.obj p hp hlt
   ·by_cases e:∃q∈l,q.1=p.1
    ·obtain⟨q,hq,e⟩:=e;have:=h.obj q hq (by omega)
     rwa [e] at this
    ·obtain⟨x,hx⟩:=k.obj p hp (k02 hlt h.size);exact⟨x,(World.cell?_of_block (a:=⟨p.1,0,qc⟩) (h.block p.1 hlt (fun q hq e'=>e ⟨q,hq,e'⟩))).symm.trans hx⟩⟩
theorem Fs.weak{l l':List Ob}(h:Fs l w w')(hsub:∀p∈l,p.1<w.heap.size->p∈l')(ho:∀p∈l',p.1<w.heap.size->∃x,w.cell? ⟨p.1,0,qc⟩=qe (.bool x)):Fs l' w w':=⟨h.os,h.tape,h.output,h.size,fun k hk hn=>h.block k hk (fun p hp e=>hn p (hsub p hp (by omega)) e),fun k j hk hn=>h.cell k j hk (fun p hp e=>hn p (hsub p hp (by omega)) e),h.frozen,h.head,ho⟩
theorem Fs.drop{l l':List Ob}(h:Fs l w w')(hsub:∀p∈l,p.1<w.heap.size->p∈l')(hl:∀p∈l',p∈l):Fs l' w w':=h.weak hsub (fun p hp=>h.obj p (hl p hp))
theorem Fs.drew{l:List Ob}(h:Fs l w w'):Fs l w w'.drew:=⟨h.os,h.tape,h.output,h.size,h.block,h.cell,h.frozen,h.head,h.obj⟩
theorem Fs.undrew{l:List Ob}(h:Fs l w.drew w'):Fs l w w':=⟨h.os,h.tape,h.output,h.size,h.block,h.cell,h.frozen,h.head,h.obj⟩
theorem Fs.below{l:List Ob}{a:qa}(h:Fs l w w')(hb:qg B a w)(hB:B<=w.heap.size)(hg:∀p∈l,B<=p.1):qg B a w':=⟨h.os.trans hb.os,h.tape.trans hb.tape,h.output.trans hb.output,k06 hb.size h.size,fun k hk=>(h.block k (by omega) (fun p hp e=>by have:=hg p hp;omega)).trans (hb.block k hk)⟩
theorem Rd.fs{l:List Ob}(h:Rd w A n c xs)(h0:∀a,A=qe a->a.off=0)(hf:Fs l w w'):Rd w' A n c xs:=⟨h.len,h.le,h.sm,h.lim,fun hn=>by obtain⟨b,off,e,hlt,hc⟩:=h.cell hn;refine⟨b,off,e,k02 hlt hf.size,fun j hj=>?_⟩;rw[<- hc j hj];refine World.cell?_of_block (a:=⟨b,off+j,qc⟩) (hf.block b hlt fun p hp hpb=>?_);obtain⟨x,hx⟩:=hf.obj p hp (by omega);have:=h0 _ e;simp only at this;subst this;have h2:=hc 0 hn;rw[hpb] at hx;rw[hx] at h2;cases h2⟩
theorem Std.fs{l:List Ob}(h:Std w)(hf:Fs l w w'):Std w':=by
 have b:w'.heap[0]?=w.heap[0]?:=hf.block _ h.2 fun p hp e=>by obtain⟨x,hx⟩:=hf.obj p hp (by rw[e];exact h.2);have a:=h.1 0 (by decide);rw[e] at hx;rw[hx] at a;cases a
 exact⟨fun j hj=>by rw[<- h.1 j hj];simp only[World.cell?,b],k02 h.2 hf.size⟩
theorem IntAt.fs{l:List Ob}(h:IntAt w g o v)(hf:Fs l w w')(hne:∀p∈l,p.1=g->o+2<=p.2.1\/p.2.1+p.2.2<=o):IntAt w' g o v:=by
 obtain⟨A,n,c,b,d,f,a⟩:=h.ex;refine⟨k02 h.lt hf.size,hf.head g h.lt h.head,fun j=>(hf.frozen g j h.lt).trans (h.fz j),A,n,c,?_,?_,f.fs a hf,a⟩
 ·rw[hf.cell g o h.lt fun p hp e=>by have:=hne p hp e;omega];exact b
 ·rw[hf.cell g (o+1) h.lt fun p hp e=>by have:=hne p hp e;omega];exact d
theorem IntAt.fs1(h:IntAt w g o v)(hf:Fs [(g',o',k)] w w')(hne:g'≠g):IntAt w' g o v:=h.fs hf fun p hp e=>by rw[k0d.1 hp] at e;exact absurd e hne
theorem q8y(u:Int)(k:Nat):qb (u*2^k<0)=(qb (u<0) && qb (0<u.natAbs*2^k)):=by
 have a:(0:Int)<2^k:=Int.pow_pos (by omega);have b:0<2^k:=k0c k;rcases k0L u 0 with h|h|h
 ·have:=k2o h a;have c:0<u.natAbs*2^k:=k0j (by omega) b;rw[k03 this,k03 h,k03 c];rfl
 ·subst h;simp
 ·have:=Int.mul_pos h a;rw[k00 (by omega),k00 (p:=u<0) (by omega)];rfl
theorem two_words(h:n<18446744073709551616):nth (toL n) 0+4294967296*nth (toL n) 1=n:=by
 have d:words n<=2:=q10 (by omega);have e:val (toL n)=n:=q04 n;unfold words at d
 match hl:toL n with
 | []=>rw[hl] at e;simp [nth,val] at *;omega
 | [a]=>rw[hl] at e;simp [nth,val] at *;omega
 | [a,b]=>rw[hl] at e;simp [nth,val] at *;omega
 | a::b::c::l=>rw[hl] at d;simp at d
theorem q7M{gr or:Nat}{a b:qa}(h:Fs ([]++([(gr,or,2),(g,o,2)]++([]++([(g,o,2)]++([]++[(gr,or,2)]))))) a b):Fs [(gr,or,2),(g,o,2)] a b:=h.drop (fun p hp _=>by simp only[k24,List.cons_append,k1b,k1j,k2G] at hp ⊢;rcases hp with h|h|h|h<;>simp [h])
  (fun p hp=>by simp only[k24,List.cons_append,k1b,k1j,k2G] at hp ⊢;rcases hp with h|h<;>simp [h])
def q20(a b:Int):Int:=if a<b then -1 else if b<a then 1 else 0
theorem q4s{a b:Int}(h:a<b):q20 a b = -1:=k0q h
theorem q4t{a b:Int}(h:b<a):q20 a b=1:=by unfold q20;rw[k0t (by omega),k0q h]
theorem q3G(a:Int):q20 a a=0:=by unfold q20;rw[k0t (by omega),k0t (by omega)]
theorem q4u{a b:Int}(h:¬a<0)(k:¬b<0):q20 a b=q0y a.natAbs b.natAbs:=by
 rcases k0L a b with c|c|c
 ·rw[q4s c,q1I (by omega)]
 ·rw[c,q3G,q4v rfl]
 ·rw[q4t c,q2x (by omega)]
theorem qaH{a b:Int}(h:a<0)(k:b<0):q20 a b = -q0y a.natAbs b.natAbs:=by
 rcases k0L a b with c|c|c
 ·rw[q4s c,q2x (by omega)]
 ·rw[c,q3G,q4v rfl];rfl
 ·rw[q4t c,q1I (by omega)];rfl
theorem q88(x:Nat)(h:x<4294967296):bits .and .u32 (x:Int) 1=((x%2:Nat):Int):=by have:=u32_and_nat x 1 h (by omega);rw[Nat.and_one_is_mod] at this;exact this
theorem q4U(n:Nat):nth (toL n) 0%2=n%2:=by
 have b:val (toL n)=n:=q04 n
 match hl:toL n with
 | []=>rw[hl] at b;simp [nth,val] at *;omega
 | a::l=>rw[hl] at b;simp [nth,val] at *;omega
def q18(v:Int)(w:qa)(e:Ending)(w':qa):Prop:=∃g,e=.returned (.pointer (qe ⟨g,0,qc⟩))/\w.heap.size<=g/\IntAt w' g 0 v/\qg w.heap.size w w'
theorem IntAt.zero(w:qa)(t:TypeId):IntAt (w.alloc (.cells #[.bool ql,.slice qc 0 0] t)) w.heap.size 0 0:=⟨by simp,⟨ql,by simp only[World.cell?];rw[qd];rfl⟩,fun j=>by simp only[World.frozen?];rw[qd];simp,qc,0,0,by simp only[World.cell?];rw[qd];rfl,by simp only[World.cell?];rw[qd];rfl,by have:toL (0:Int).natAbs=[]:=rfl;rw[this];exact Rd.nil _,fun a e=>by cases e⟩
theorem q51{a b r:Int}(hb:b≠0)(h:b*q+r=a)(h0:0<=r)(h1:r<b.natAbs):a/b=q/\a%b=r:=by
 have d:∀{b q:Int},0<b->b*q+r=a->r<b->a/b=q/\a%b=r:=fun {b q} c h h1 =>(Int.ediv_emod_unique c).2 ⟨by rw[Int.add_comm];exact h,h0,h1⟩
 rcases Int.lt_or_gt_of_ne hb with g|c
 ·obtain⟨f,e⟩:=d (b:=-b) (q:=-q) (by omega) (by rw[Int.neg_mul_neg];exact h) (by omega);rw[Int.ediv_neg] at f;rw[Int.emod_neg] at e;exact⟨by omega,e⟩
 ·exact d c h (by omega)
theorem qbX(h0:u2≠0)(hr:¬sg (qb (u1<0)) (u1.natAbs%u2.natAbs)<0):sg (qb (u1<0) != qb (u2<0)) (u1.natAbs/u2.natAbs)=u1/u2/\sg (qb (u1<0)) (u1.natAbs%u2.natAbs)=u1%u2:=by
 have f:=k0M u1.natAbs u2.natAbs;have g:=k0l u1.natAbs (y:=u2.natAbs) (by omega);have e:((u2.natAbs:Int)*(u1.natAbs/u2.natAbs:Nat)+(u1.natAbs%u2.natAbs:Nat))=(u1.natAbs:Int):=by rw[<- k07,<- k1c,f]
 generalize u1.natAbs/u2.natAbs=Q at *
 generalize u1.natAbs%u2.natAbs=R at *
 have:=q51 (a:=u1) (b:=u2) (q:=sg (qb (u1<0) != qb (u2<0)) Q) (r:=sg (qb (u1<0)) R) h0 ?_ (by omega) (by by_cases h:u1<0<;>simp [sg,h] at*<;> omega)
 ·exact⟨this.1.symm,this.2.symm⟩
 by_cases h:u1<0<;>by_cases k:u2<0
 ·have c:(u1.natAbs:Int) = -u1:=by omega
  have d:(u2.natAbs:Int) = -u2:=by omega
  rw[c,d] at e;simp [sg,h,k] at *
  try simp only[k0N,k2P] at *
  omega
 ·have c:(u1.natAbs:Int) = -u1:=by omega
  have d:(u2.natAbs:Int)=u2:=by omega
  rw[c,d] at e;simp [sg,h,k] at *
  try simp only[k0N,k2P] at *
  omega
 ·have c:(u1.natAbs:Int)=u1:=by omega
  have d:(u2.natAbs:Int) = -u2:=by omega
  rw[c,d] at e;simp [sg,h,k] at *
  try simp only[k0N,k2P] at *
  omega
 ·have c:(u1.natAbs:Int)=u1:=by omega
  have d:(u2.natAbs:Int)=u2:=by omega
  rw[c,d] at e;simp [sg,h,k] at *
  try simp only[k0N,k2P] at *
  omega
theorem qaD(h0:u2≠0)(hr:sg (qb (u1<0)) (u1.natAbs%u2.natAbs)<0):sg (qb (u1<0) != qb (u2<0)) (u1.natAbs/u2.natAbs)+(if u2<0 then 1 else -1)=u1/u2/\((u2.natAbs-u1.natAbs%u2.natAbs:Nat):Int)=u1%u2:=by
 have i:=k0M u1.natAbs u2.natAbs;have j:=k0l u1.natAbs (y:=u2.natAbs) (by omega);have e:((u2.natAbs:Int)*(u1.natAbs/u2.natAbs:Nat)+(u1.natAbs%u2.natAbs:Nat))=(u1.natAbs:Int):=by rw[<- k07,<- k1c,i]
 generalize u1.natAbs/u2.natAbs=Q at *
 generalize u1.natAbs%u2.natAbs=R at *
 have f:u1<0:=by
  by_cases h:u1<0
  ·exact h
  ·simp [sg,h] at hr;omega
 have l:0<R:=by
  rcases k01 R with h|h
  ·subst h;simp [sg] at hr
  ·exact h
 have:=q51 (a:=u1) (b:=u2) (q:=sg (qb (u1<0) != qb (u2<0)) Q+(if u2<0 then 1 else -1)) (r:=((u2.natAbs-R:Nat):Int)) h0 ?_ (by omega) (by omega)
 ·exact⟨this.1.symm,this.2.symm⟩
 have g:(u1.natAbs:Int) = -u1:=by omega
 by_cases k:u2<0
 ·have c:(u2.natAbs:Int) = -u2:=by omega
  rw[g,c] at e;have d:((u2.natAbs-R:Nat):Int) = -u2-R:=by omega
  rw[d];simp [sg,f,k] at *
  try simp only[k0N,k2P,k2H] at *
  omega
 ·have c:(u2.natAbs:Int)=u2:=by omega
  rw[g,c] at e;have d:((u2.natAbs-R:Nat):Int)=u2-R:=by omega
  rw[d];simp [sg,f,k] at *
  try simp only[k0N,k2P,k2H] at *
  omega
theorem Sz.mono(h:Sz b)(hab:a<=b):Sz a:=k06 (q13 hab) h
theorem Sz.small(h:a<18446744073709551616):Sz a:=k06 (q0B (k:=64) h) (by omega)
def q5C(g o:Nat)(u:Int)(w:qa)(e:Ending)(w':qa):Prop:=e=.returned (.pointer (qe ⟨g,o,qc⟩))/\IntAt w' g o u/\Fs [(g,o,2)] w w'
theorem q0C.f(h:q0C g o u w e w')(hv:IntAt w g o v):q5C g o u w e w':=⟨h.1,h.2.1,h.fs hv⟩
theorem q5C.below{a:qa}(h:q5C g o u w e w')(hb:qg B a w)(hB:B<=w.heap.size)(hg:B<=g):qg B a w':=h.2.2.below hb hB (fun p hp=>by rw[k0d.1 hp];exact hg)
theorem q5C.after{a:qa}(h:q5C g o u w e w')(hb:qg a.heap.size a w):Fs [(g,o,2)] a w':=((Fs.of_nil hb).trans h.2.2).drop (fun p hp _=>hp) (fun p hp=>hp)
structure ExpInv(w:qa)(gb g1 g2:Nat)(A:Option qk)(n x y q:Nat)(wr:qa):Prop where
 by_:IntAt wr gb 0 0
 o:IntAt wr g1 0 ((x^q:Nat):Int)
 base:IntAt wr g2 0 (x:Int)
 words:Rd wr A n n (toL y)
 off:∀a,A=qe a->a.off=0
 bel:qg w.heap.size w wr
theorem ExpInv.step{wr:qa}{gb g1 g2 x q q':Nat}(h:ExpInv w gb g1 g2 A n x y q wr)(hP:q0C g1 0 u wr e w')(hu:u=((x^q':Nat):Int))(h1:w.heap.size<=g1)(hb:g1≠gb)(h2:g1≠g2):ExpInv w gb g1 g2 A n x y q' w':=by have a:=hP.f h.o;exact⟨h.by_.fs1 a.2.2 hb,by rw[<- hu];exact a.2.1,h.base.fs1 a.2.2 h2,h.words.fs h.off a.2.2,h.off,a.below h.bel h.bel.size h1⟩
theorem IntAt.nil(h:IntAt w g o 0):∃A c,w.cell? ⟨g,o+1,qc⟩=qe (.slice A 0 c):=by obtain⟨A,n,c,d,a,b,e⟩:=h.ex;have:n=0:=b.len.symm;subst this;exact⟨A,c,a⟩
theorem q44(x s:Nat)(hx:x<4294967296):(bits .and .u32 ((x:Int)/2^s) 1==1)=qb (x/2^s%2=1):=by rw[q1V,q88 _ (k0C (k0e _ _) hx)];rcases k0S (x/2^s) with h|h<;>rw[h]<;>rfl
theorem q1C(y i:Nat):y/2^i=2*(y/2^(i+1))+y/2^i%2:=by rw[k0a,<- k0r];omega
theorem q5j(y i:Nat):nth (toL y) (i/32)/2^(i%32)%2=y/2^i%2:=by
 rw[q12,q1z,<- k2m];have e:(2:Nat)^(i%32)*2=2^(i%32+1):=(k0a ..).symm;have a:(4294967296:Nat)=2^(i%32+1)*2^(31-i%32):=by rw[<- k0i,show i%32+1+(31-i%32)=32 by omega]
 rw[e,a,Nat.mod_mul_right_mod,<- e,k2m,k0r,<- k0i,show 32*(i/32)+i%32=i by omega]
def lp(p:Int)(d:Nat):Int:=sg (qb (p<0)) (p.natAbs/Nat.gcd p.natAbs d)
def ld(p:Int)(d:Nat):Nat:=d/Nat.gcd p.natAbs d
theorem q2J(p:Int)(d:Nat):(lp p d).natAbs=p.natAbs/Nat.gcd p.natAbs d:=q0v _ _
theorem q0g(hd:0<d):0<Nat.gcd n d:=qj _ hd
theorem q0R(hd:0<d):0<ld p d:=k1i (k13 hd (k0y _ _)) (q0g hd)
theorem q1H(p:Int)(d:Nat):(lp p d).natAbs<=p.natAbs:=by rw[q2J];exact k0e _ _
theorem q1Q(p:Int)(d:Nat):ld p d<=d:=k0e _ _
theorem q1w(hd:0<d):Nat.gcd (lp p d).natAbs (ld p d)=1:=by rw[q2J];exact qf hd
theorem q5X(p:Int)(d:Nat):lp p d*(Nat.gcd p.natAbs d:Nat)=p:=by
 have h:=qm (k15 p.natAbs d);have e:((p.natAbs/Nat.gcd p.natAbs d:Nat):Int)*(Nat.gcd p.natAbs d:Nat)=(p.natAbs:Int):=by rw[<- k07,h]
 unfold lp sg;by_cases k:p<0
 ·rw[k03 k,k0q rfl,k0N,e];omega
 ·rw[k00 k,k0t (by decide),e];omega
theorem qbN(p:Int)(d:Nat):ld p d*Nat.gcd p.natAbs d=d:=qm (k0y _ _)
theorem q0q(p:Int)(d:Nat):lp p d*d=p*ld p d:=by
 have a:=q5X p d;have b:((ld p d:Nat):Int)*(Nat.gcd p.natAbs d:Nat)=d:=by rw[<- k07,qbN]
 generalize ((Nat.gcd p.natAbs d:Nat):Int)=G at *
 calc lp p d*d=lp p d*(ld p d*G):=by rw[b]
  _=lp p d*G*ld p d:=by grind
  _=p*ld p d:=by rw[a]
theorem q5m(d:Nat):lp 0 d=0:=by simp [lp,sg]
theorem qaq(hd:0<d):ld 0 d=1:=by simp [ld,Nat.div_self hd]
theorem q3W:lp p d=0↔p=0:=by
 constructor
 ·intro h;have:=q5X p d;rw[h,Int.zero_mul] at this;exact this.symm
 ·rintro rfl;exact q5m d
theorem q2c(hd:0<d):lp p d<0↔p<0:=by
 have h:=q5X p d;have b:(0:Int)<(Nat.gcd p.natAbs d:Nat):=by have:=q0g (n:=p.natAbs) hd;omega
 generalize ((Nat.gcd p.natAbs d:Nat):Int)=G at *
 constructor
 ·intro k;rw[<- h];exact k2o k b
 ·intro k;rcases k17 (lp p d) 0 with a|a
  ·exact a
  ·have:=k0X a (Int.le_of_lt b);omega
theorem qak(hd:0<d):(lp p d).sign=p.sign:=by
 rcases k0L p 0 with h|h|h
 ·rw[k0H h,k0H ((q2c hd).2 h)]
 ·subst h;rw[q5m]
 ·rw[k0o h,k0o];have a:=(q2c (p:=p) hd);have b:=q3W (p:=p) (d:=d);omega
theorem q3j(hd:0<d)(hy:0<y)(hc:Nat.gcd x.natAbs y=1)(h:x*d=p*y):lp p d=x/\ld p d=y:=by
 have j:=q0R (p:=p) hd;have c:=q1w (p:=p) hd;have f:=q0q p d;have e:lp p d*y=x*ld p d:=by
  have:(d:Int)*(lp p d*y)=d*(x*ld p d):=by
   calc (d:Int)*(lp p d*y)=lp p d*d*y:=by grind
    _=p*ld p d*y:=by rw[f]
    _=p*y*ld p d:=by grind
    _=x*d*ld p d:=by rw[h]
    _=_:=by grind
  exact Int.eq_of_mul_eq_mul_left (by omega) this
 have a:(lp p d).natAbs*y=x.natAbs*ld p d:=by
  have:=k0v Int.natAbs e
  rwa [k0B,k0B,k05,k05] at this
 have g:y ∣ ld p d:=by have:y ∣ x.natAbs*ld p d:=⟨(lp p d).natAbs,by rw[<- a,k0b]⟩;exact(qn hc).dvd_of_dvd_mul_left this
 have i:ld p d ∣ y:=by have:ld p d ∣ (lp p d).natAbs*y:=⟨x.natAbs,by rw[a,k0b]⟩;exact(qn c).dvd_of_dvd_mul_left this
 have b:=Nat.dvd_antisymm g i;refine⟨?_,b.symm⟩;rw[<- b] at e;exact Int.eq_of_mul_eq_mul_right (by omega) e
theorem q4X{e:Nat}(hd:0<d)(he:0<e)(h:p*e=q*d):lp p d=lp q e/\ld p d=ld q e:=by
 have:=q3j (x:=lp q e) (y:=ld q e) (p:=p) (d:=d) hd (q0R he) (q1w he) ?_
 ·exact⟨this.1,this.2⟩
 ·have k:=q0q q e;have:(e:Int)*(lp q e*d)=e*(p*ld q e):=by
   calc (e:Int)*(lp q e*d)=lp q e*e*d:=by grind
    _=q*ld q e*d:=by rw[k]
    _=q*d*ld q e:=by grind
    _=p*e*ld q e:=by rw[h]
    _=_:=by grind
  exact Int.eq_of_mul_eq_mul_left (by omega) this
theorem q1f(hd:0<d)(hc:Nat.gcd p.natAbs d=1):lp p d=p/\ld p d=d:=q3j hd hd hc rfl
theorem q7A(p:Int):lp p 1=p:=(q1f (by omega) (k1z _)).1
theorem q9y(p:Int):ld p 1=1:=(q1f (by omega) (k1z _)).2
theorem q9p{b:Bool}{D:Nat}(hD:0<D):Nat.gcd (sg b (N/Nat.gcd N D)).natAbs (D/Nat.gcd N D)=1/\sg b (N/Nat.gcd N D)*(D:Int)=sg b N*(D/Nat.gcd N D:Nat):=by
 refine⟨by rw[q0v];exact qf hD,?_⟩;have a:=q0g (n:=N) hD;have d:=k15 N D;have f:=k0y N D;obtain⟨x,hx⟩:=d;obtain⟨y,g⟩:=f;generalize Nat.gcd N D=G at *
 have e:N/G*D=N*(D/G):=by rw[hx,g,k10 _ a,k10 _ a];grind
 have c:((N/G:Nat):Int)*D=(N:Int)*(D/G:Nat):=by rw[<- k07,e,k07]
 cases b
 ·exact c
 ·show -((N/G:Nat):Int)*D = -(N:Int)*(D/G:Nat);rw[k0N,c,k0N]
theorem q7t(hb:0<b)(hd:0<d)(h1:Nat.gcd a b=1)(h2:Nat.gcd c d=1)(ha:0<a)(hc:0<c):Nat.gcd (a/Nat.gcd a d*(c/Nat.gcd c b)) (b/Nat.gcd c b*(d/Nat.gcd a d))=1/\(a/Nat.gcd a d*(c/Nat.gcd c b))*(b*d)=a*c*(b/Nat.gcd c b*(d/Nat.gcd a d)):=by
 have e:=k15 a d;have f:=k0y a d;have i:=k15 c b;have j:=k0y c b;have m:Nat.Coprime (a/Nat.gcd a d) (d/Nat.gcd a d):=k1U (q0g hd);have o:Nat.Coprime (c/Nat.gcd c b) (b/Nat.gcd c b):=k1U (q0g hb);have p:Nat.Coprime (a/Nat.gcd a d) (b/Nat.gcd c b):=(k1R (k2e e) h1).coprime_dvd_right (k2e j);have q:Nat.Coprime (c/Nat.gcd c b) (d/Nat.gcd a d):=(k1R (k2e i) h2).coprime_dvd_right (k2e f);refine⟨qh (k2h p m) (k2h o q),?_⟩;obtain⟨x,hx⟩:=e;obtain⟨y,r⟩:=f;obtain⟨u,s⟩:=i;obtain⟨v,t⟩:=j;have k:=q0g (n:=a) hd;have l:=q0g (n:=c) hb;generalize Nat.gcd a d=g at *
 generalize Nat.gcd c b=h at *
 subst hx s;rw[r,t,k10 _ k,k10 _ k,k10 _ l,k10 _ l]
 grind
theorem qaQ{m n:Int}(hP:0<P)(hQ:0<Q)(h1:Nat.gcd m.natAbs P=1)(h2:Nat.gcd n.natAbs Q=1):let g:=Nat.gcd P Q
  let s:=m*(Q/g:Nat)+n*(P/g:Nat)
  let h:=Nat.gcd s.natAbs g
  Nat.gcd (s.natAbs/h) (P/g*(Q/h))=1/\sg (qb (s<0)) (s.natAbs/h)*(P*Q:Nat)=(m*Q+n*P)*(P/g*(Q/h):Nat):=by
 intro g s h;have b:0<g:=q0g hQ;have p:g ∣ P:=k15 P Q;have q:g ∣ Q:=k0y P Q;have d:Nat.Coprime (P/g) (Q/g):=k1U b;obtain⟨x,hx⟩:=p;obtain⟨y,a⟩:=q;have e:P/g=x:=by rw[hx,k10 _ b]
 have o:Q/g=y:=by rw[a,k10 _ b]
 have f:s=m*y+n*x:=by show m*(Q/g:Nat)+n*(P/g:Nat)=_;rw[e,o]
 rw[e,o] at d;have i:0<h:=qj _ b;have r:h ∣ s.natAbs:=k15 _ _;obtain⟨z,c⟩:h ∣ g:=k0y _ _;have t:Nat.Coprime s.natAbs x:=by
  have j:Nat.Coprime m.natAbs x:=qi ⟨g,by rw[hx,k0b]⟩ h1;have l:Nat.Coprime (m*y).natAbs x:=by rw[k0B,k05];exact qh j d.symm
  have k:Int.gcd s x=Int.gcd (m*y) x:=by rw[f,Int.gcd_add_mul_right_left]
  exact k.trans l
 have u:Nat.Coprime s.natAbs y:=by
  have j:Nat.Coprime n.natAbs y:=qi ⟨g,by rw[a,k0b]⟩ h2;have l:Nat.Coprime (n*x).natAbs y:=by rw[k0B,k05];exact qh j d
  have k:Int.gcd s y=Int.gcd (n*x) y:=by rw[f,Int.add_comm,Int.gcd_add_mul_right_left]
  exact k.trans l
 have v:Q/h=y*z:=by rw[a,c,k0h,k10 _ i,k0b]
 have w:Nat.Coprime (s.natAbs/h) z:=by
  have:Nat.Coprime (s.natAbs/h) (g/h):=k1U i
  rwa [c,k10 _ i] at this
 have dv:=k2e r;rw[e,v];refine⟨k2h (k1R dv t) (k2h (k1R dv u) w),?_⟩;have C:sg (qb (s<0)) (s.natAbs/h)*(h:Nat)=s:=by have:=q5X s g;exact this
 generalize sg (qb (s<0)) (s.natAbs/h)=S at *
 have D:(m*Q+n*P)=g*s:=by
  rw[f];conv=>lhs;rw[hx,a]
  simp only[k07];grind
 rw[D,<- C]
 conv=>lhs;rw[hx,a]
 rw[show(g:Int)=((h*z:Nat):Int) by rw[<- c]];have E:((g*x*(g*y):Nat):Int)=((h*z*x*(h*z*y):Nat):Int):=by rw[<- c]
 rw[E];simp only[k07]
 grind
theorem q4z{m n s:Int}(hP:0<P)(hQ:0<Q)(h1:Nat.gcd m.natAbs P=1)(h2:Nat.gcd n.natAbs Q=1)(hs:s=m*(Q/Nat.gcd P Q:Nat)+n*(P/Nat.gcd P Q:Nat)):Nat.gcd (s.natAbs/Nat.gcd s.natAbs (Nat.gcd P Q)) (P/Nat.gcd P Q*(Q/Nat.gcd s.natAbs (Nat.gcd P Q)))=1 /\sg (qb (s<0)) (s.natAbs/Nat.gcd s.natAbs (Nat.gcd P Q))*(P*Q:Nat)=(m*Q+n*P)*(P/Nat.gcd P Q*(Q/Nat.gcd s.natAbs (Nat.gcd P Q)):Nat):=by subst hs;exact qaQ hP hQ h1 h2
def q1K(w:qa)(A:Option qk)(n c d:Nat):Prop:=(n=0/\d=1\/0<n/\Rd w A n c (toL d))/\∀a,A=qe a->a.off=0
structure RatSh(w:qa)(g:Nat):Prop where
 int:∃v,IntAt w g 0 v
 c2:∃x,w.cell? ⟨g,2,qc⟩=qe x
structure RatAt(w:qa)(g:Nat)(p:Int)(d:Nat):Prop where
 num:IntAt w g 0 (lp p d)
 den:∃A n c,w.cell? ⟨g,2,qc⟩=qe (.slice A n c)/\q1K w A n c (ld p d)
 pos:0<d
theorem RatAt.lt(h:RatAt w g p d):g<w.heap.size:=h.num.lt
theorem RatAt.sh(h:RatAt w g p d):RatSh w g:=⟨⟨_,h.num⟩,by obtain⟨A,n,c,e,-⟩:=h.den;exact⟨_,e⟩⟩
theorem RatAt.cross{e:Nat}(h:RatAt w g p d)(he:0<e)(hx:p*e=q*d):RatAt w g q e:=by obtain⟨a,b⟩:=q4X h.pos he hx;exact⟨by rw[<- a];exact h.num,by rw[<- b];exact h.den,he⟩
theorem q1K.below(h:q1K w A n c d)(hb:qg B w w')(hB:B=w.heap.size):q1K w' A n c d:=⟨h.1.imp id fun k=>⟨k.1,k.2.below hb hB⟩,h.2⟩
theorem q1K.fs{l:List Ob}(h:q1K w A n c d)(hf:Fs l w w'):q1K w' A n c d:=⟨h.1.imp id fun k=>⟨k.1,k.2.fs h.2 hf⟩,h.2⟩
theorem q1K.like(h:q1K w A n c d)(e:w'.heap=w.heap):q1K w' A n c d:=⟨h.1.imp id fun k=>⟨k.1,k.2.like e⟩,h.2⟩
theorem RatSh.below(h:RatSh w g)(hb:qg w.heap.size w w'):RatSh w' g:=by obtain⟨⟨v,a⟩,x,hx⟩:=h;exact⟨⟨v,a.below hb⟩,x,(hb.cell (p:=⟨g,2,qc⟩) a.lt).trans hx⟩
theorem RatAt.below(h:RatAt w g p d)(hb:qg w.heap.size w w'):RatAt w' g p d:=by obtain⟨A,n,c,e,a⟩:=h.den;exact⟨h.num.below hb,⟨A,n,c,(hb.cell (p:=⟨g,2,qc⟩) h.lt).trans e,a.below hb rfl⟩,h.pos⟩
theorem RatAt.like(h:RatAt w g p d)(e:w'.heap=w.heap):RatAt w' g p d:=by obtain⟨A,n,c,a,b⟩:=h.den;exact⟨h.num.like e,⟨A,n,c,by rw[<- a];simp only[World.cell?,e],b.like e⟩,h.pos⟩
theorem RatAt.drew(h:RatAt w g p d):RatAt w.drew g p d:=h.like rfl
theorem RatSh.like(h:RatSh w g)(e:w'.heap=w.heap):RatSh w' g:=by obtain⟨⟨v,a⟩,x,hx⟩:=h;exact⟨⟨v,a.like e⟩,x,by rw[<- hx];simp only[World.cell?,e]⟩
theorem RatAt.fs{l:List Ob}(h:RatAt w g p d)(hf:Fs l w w')(hne:∀q∈l,q.1≠g):RatAt w' g p d:=by obtain⟨A,n,c,e,a⟩:=h.den;exact⟨h.num.fs hf (fun q hq k=>absurd k (hne q hq)),⟨A,n,c,(hf.cell g 2 h.lt fun q hq k=>absurd k (hne q hq)).trans e,a.fs hf⟩,h.pos⟩
theorem RatAt.fs1(h:RatAt w g p d)(hf:Fs [(g',o',k)] w w')(hne:g'≠g):RatAt w' g p d:=h.fs hf fun q hq=>by rw[k0d.1 hq];exact hne
theorem RatSh.fs{l:List Ob}(h:RatSh w g)(hf:Fs l w w')(hne:∀q∈l,q.1≠g):RatSh w' g:=by obtain⟨⟨v,a⟩,x,hx⟩:=h;exact⟨⟨v,a.fs hf (fun q hq k=>absurd k (hne q hq))⟩,x,(hf.cell g 2 a.lt fun q hq k=>absurd k (hne q hq)).trans hx⟩
theorem RatSh.num(h:RatSh w g)(hP:q5C g 0 u w e w'):IntAt w' g 0 u/\∃x,w'.cell? ⟨g,2,qc⟩=qe x:=by obtain⟨⟨v,a⟩,x,hx⟩:=h;exact⟨hP.2.1,x,(hP.2.2.cell g 2 a.lt fun p hp _=>by rw[k0d.1 hp];right;exact lr).trans hx⟩
theorem Fs.set2(h:IntAt w g 0 v)(s:qp):Fs [(g,2,1)] w (w.setCell ⟨g,2,qc⟩ s):=by
 obtain⟨x,hx⟩:=h.head;refine⟨rfl,rfl,rfl,by simp [World.setCell],fun k _ hn=>Below.heap_setCell w ⟨g,2,qc⟩ s k (fun e=>hn _ (k0d.2 rfl) e.symm),fun k j _ hn=>q0t (fun e=>?_),fun k j _=>World.frozen?_setCell _ _ _ _,fun k _ hk=>?_,fun p hp _=>?_⟩
 ·injection e with e1 e2;have:=hn (g,2,1) (k0d.2 rfl) e1;simp only at this;omega
 ·obtain⟨y,a⟩:=hk;exact⟨y,(q0t (fun e=>by injection e with _ e;omega)).trans a⟩
 ·rw[k0d.1 hp];exact⟨x,hx⟩
theorem IntAt.set2(h:IntAt w g 0 v)(s:qp):IntAt (w.setCell ⟨g,2,qc⟩ s) g 0 v:=h.fs (Fs.set2 h s) fun p hp _=>by rw[k0d.1 hp];left;exact lr
theorem RatAt.made(h:IntAt w g 0 x)(hc:∃z,w.cell? ⟨g,2,qc⟩=qe z)(hd:q1K w A n c y)(hp:0<d)(hy:0<y)(h1:Nat.gcd x.natAbs y=1)(h2:x*d=p*y):RatAt (w.setCell ⟨g,2,qc⟩ (.slice A n c)) g p d:=by obtain⟨a,b⟩:=q3j hp hy h1 h2;obtain⟨z,e⟩:=hc;exact⟨by rw[a];exact h.set2 _,⟨A,n,c,q0r e,by rw[b];exact hd.fs (Fs.set2 h _)⟩,hp⟩
theorem fs3(h:Fs [(g,0,2),(g,2,1)] w w'):Fs [(g,0,3)] w w':=⟨h.os,h.tape,h.output,h.size,fun k hk hn=>h.block k hk fun p hp=>by
   simp only[k1b,k1j,k2G] at hp;rcases hp with rfl|rfl<;>exact hn (g,0,3) (k0d.2 rfl),
  fun k j hk hn=>h.cell k j hk fun p hp e=>by have:=hn (g,0,3) (k0d.2 rfl);simp only[k1b,k1j,k2G] at hp;rcases hp with rfl|rfl<;>(have:=this e;simp only at this ⊢;omega),
  h.frozen,h.head,fun p hp hlt=>by rw[k0d.1 hp] at hlt ⊢;exact h.obj (g,0,2) (by simp) hlt⟩
theorem qav(h:Fs [(g,0,2)] w w'):Fs [(g,0,3)] w w':=⟨h.os,h.tape,h.output,h.size,fun k hk hn=>h.block k hk fun p hp=>by rw[k0d.1 hp];exact hn (g,0,3) (k0d.2 rfl),fun k j hk hn=>h.cell k j hk fun p hp e=>by have:=hn (g,0,3) (k0d.2 rfl);rw[k0d.1 hp] at e ⊢;have:=this e;simp only at this ⊢;omega,h.frozen,h.head,fun p hp hlt=>by rw[k0d.1 hp] at hlt ⊢;exact h.obj (g,0,2) (by simp) hlt⟩
def q1M(g:Nat)(p:Int)(d:Nat)(w:qa)(e:Ending)(w':qa):Prop:=e=.returned (.pointer (qe ⟨g,0,qc⟩))/\RatAt w' g p d/\Fs [(g,0,3)] w w'
theorem q1M.below{a:qa}(h:q1M g p d w e w')(hb:qg B a w)(hB:B<=w.heap.size)(hg:B<=g):qg B a w':=h.2.2.below hb hB (fun p hp=>by rw[k0d.1 hp];exact hg)
theorem Fs.after{l:List Ob}{a:qa}(h:Fs l w w')(hb:qg a.heap.size a w):Fs l a w':=((Fs.of_nil hb).trans h).drop (fun p hp _=>hp) (fun p hp=>hp)
theorem q1M.cross{e':Nat}(h:q1M g p d w e w')(he:0<e')(hx:p*e'=q*d):q1M g q e' w e w':=⟨h.1,h.2.1.cross he hx,h.2.2⟩
def q1d(p:Int)(d:Nat)(w:qa)(e:Ending)(w':qa):Prop:=∃g,e=.returned (.pointer (qe ⟨g,0,qc⟩))/\w.heap.size<=g/\RatAt w' g p d/\qg w.heap.size w w'
theorem RatAt.zero(w:qa)(t:TypeId):RatAt (w.alloc (.cells #[.bool ql,.slice qc 0 0,.slice qc 0 0] t)) w.heap.size 0 1:=by have hi:IntAt (w.alloc (.cells #[.bool ql,.slice qc 0 0,.slice qc 0 0] t)) w.heap.size 0 0:=⟨by simp,⟨ql,by simp only[World.cell?];rw[qd];rfl⟩,fun j=>by simp only[World.frozen?];rw[qd];simp,qc,0,0,by simp only[World.cell?];rw[qd];rfl,by simp only[World.cell?];rw[qd];rfl,by have:toL (0:Int).natAbs=[]:=rfl;rw[this];exact Rd.nil _,fun a e=>by cases e⟩;exact⟨by rw[q5m];exact hi,⟨qc,0,0,by simp only[World.cell?];rw[qd];rfl,.inl ⟨rfl,qaq (by omega)⟩,fun a e=>by cases e⟩,by omega⟩
theorem Rd.den(h:Rd w A n c (toL d))(hd:0<d)(hz:∀a,A=qe a->a.off=0):q1K w A n c d:=by
 refine⟨.inr ⟨?_,h⟩,hz⟩;rcases k01 n with rfl|b
 ·have:=q06.1 h.words;omega
 ·exact b
theorem q1K.nil(w:qa):q1K w qc 0 0 1:=⟨.inl ⟨rfl,rfl⟩,fun a e=>by cases e⟩
theorem qaj(h:u.natAbs=p.natAbs):(lp u d).natAbs=(lp p d).natAbs/\ld u d=ld p d:=by rw[q2J,q2J,h];exact⟨rfl,by unfold ld;rw[h]⟩
theorem RatAt.resign(h:RatAt w g p d)(u:Int)(hu:u.natAbs=p.natAbs):RatAt (w.setCell ⟨g,0,qc⟩ (.bool (qb (u<0)))) g u d/\Fs [(g,0,3)] w (w.setCell ⟨g,0,qc⟩ (.bool (qb (u<0)))):=by
 obtain⟨A,n,c,b,m,f,i⟩:=h.num.ex;have a:Fm g 0 w (w.setCell ⟨g,0,qc⟩ (.bool (qb (u<0)))):=Fm.set0 _ _ (.inl rfl);obtain⟨o,q⟩:=qaj (d:=d) hu;have k:IntAt (w.setCell ⟨g,0,qc⟩ (.bool (qb (u<0)))) g 0 (lp u d):=by
  refine⟨k02 h.num.lt a.size,⟨_,q0r b⟩,fun j=>by rw[a.frozen];exact h.num.fz j,A,n,c,?_,?_,?_,i⟩
  ·rw[show qb (lp u d<0)=qb (u<0) by rw[k2s];exact q2c h.pos];exact q0r b
  ·exact(q0t (fun e=>by injection e with _ e;omega)).trans m
  ·rw[o];exact f.fm a (f.apart i h.num.head)
 have l:=a.fs h.num k;obtain⟨r,s,t,e,v⟩:=h.den;refine⟨⟨k,⟨r,s,t,?_,by rw[q];exact v.fs l⟩,h.pos⟩,qav l⟩;exact(q0t (fun e=>by injection e with _ e;omega)).trans e
theorem q1K.rd(h:q1K w A n c d):∃xs,Rd w A n c xs/\(n=0/\d=1/\xs=[]\/0<n/\xs=toL d):=by
 rcases h.1 with ⟨rfl,rfl⟩|⟨a,b⟩
 ·exact⟨[],⟨rfl,k0x _,k0x _,q0D,fun h=>absurd h (by omega)⟩,.inl ⟨rfl,rfl,rfl⟩⟩
 ·exact⟨_,b,.inr ⟨a,rfl⟩⟩
theorem q1K.of_copy(h:Rd w A n c xs)(hd:n=0/\d=1/\xs=[]\/0<n/\xs=toL d)(hz:∀a,A=qe a->a.off=0):q1K w A n c d:=by
 refine⟨?_,hz⟩;rcases hd with ⟨b,e,-⟩|⟨f,rfl⟩
 ·exact .inl ⟨b,e⟩
 ·exact .inr ⟨f,h⟩
theorem q2e(hN:0<N)(hd:0<d):Nat.gcd (ld N d) (lp N d).natAbs=1/\((ld N d:Nat):Int)*(N:Nat)=(d:Int)*((lp N d).natAbs:Nat)/\0<(lp (N:Int) d).natAbs:=by
 have h:=q1w (p:=(N:Int)) hd;have k:=q0q (N:Int) d;have z:=q2c (p:=(N:Int)) hd;have a:=q3W (p:=(N:Int)) (d:=d);refine⟨by rw[k19];exact h,?_,by omega⟩;have:((lp (N:Int) d).natAbs:Int)=lp (N:Int) d:=by omega
 rw[this,k2y (d:Int),k,k2y]
def Sm(n:Nat):Prop:=bl n<=4294967296
theorem q0n(a b:Nat):bl (a*b)<=bl a+bl b:=q0B (by rw[k0i];exact Nat.mul_lt_mul'' (q0S a) (q0S b))
theorem q2P(a b:Nat):bl (a+b)<=max (bl a) (bl b)+1:=q0B (by have h1:=q0S a;have h2:=q0S b;have h3:2^bl a<=2^max (bl a) (bl b):=k04 (by omega) (Nat.le_max_left _ _);have h4:2^bl b<=2^max (bl a) (bl b):=k04 (by omega) (Nat.le_max_right _ _);rw[k0a];omega)
theorem Sm.sz(h:Sm n):Sz n:=by unfold Sm at h;unfold Sz;omega
theorem Sm.mono(h:Sm b)(hab:a<=b):Sm a:=k06 (q13 hab) h
theorem Sm.mul(h:Sm a)(k:Sm b):Sz (a*b):=by have:=q0n a b;unfold Sm at h k;unfold Sz;omega
end
section
open Go
theorem q4o{X Y:Nat}(hX:0<X)(h:Y=X):lp ((m*Y:Nat):Int) X=m:=by subst h;have:=(q4X (p:=((m*Y:Nat):Int)) (q:=(m:Int)) (d:=Y) (e:=1) hX (by omega) (by rw[k07];simp)).1;rw[this,q7A]
theorem q4Y(hE:2<=E)(h1:1-q09 E<=l)(h2:1-q09 E<l->2^F<=m):q0y (m*p2 (l-F)*p2 (q09 E-1)) (p2 (1-q09 E)*p2 (F-l))<0↔l=1-q09 E/\m<2^F:=by
 have b:=q0X hE;have k:=q80 m 1 (l-F) (1-q09 E);rw[k0J,show -(1-q09 E)=q09 E-1 by omega,show -(l-(F:Int))=F-l by omega] at k;rw[k,q34,k0J];rcases k17 (1-q09 E) l with h|h
 ·have c:=h2 h;constructor
  ·intro k;exfalso;have a:p2 (1-q09 E-(l-F))<=p2 (F:Int):=q7k (by omega);rw[q1a] at a;have d:m*1<=m*p2 (l-F-(1-q09 E)):=k0g _ (q0l _);omega
  ·rintro⟨k,-⟩;omega
 ·obtain rfl:l=1-q09 E:=by omega
  rw[q0c (n:=1-q09 E-F-(1-q09 E)) (by omega),show 1-q09 E-(1-q09 E-(F:Int))=F by omega,q1a,k0u];exact⟨fun k=>⟨rfl,k⟩,fun k=>k.2⟩
theorem q74(hE:2<=E):lp ((m*p2 (1-q09 E-F)*p2 (q09 E-1+F):Nat):Int) (p2 (F-(1-q09 E))*p2 (-(q09 E-1+F)))=m:=by have a:=q0X hE;rw[k0h];refine q4o (k0j (q0l _) (q0l _)) ?_;rw[q0c (n:=1-q09 E-F) (by omega),q0c (n:=-(q09 E-1+F)) (by omega),k0J,k0u];congr 1;omega
theorem q5Q(h1:2^F<=m)(h2:m<2^(F+1)):q0I (m*p2 (l-F)) (p2 (F-l))=l:=by
 have b:0<m:=k02 (k0c F) h1;refine(q0T (k0j b (q0l _)) (q0l _)).uniq ?_;have k:=q31 (l-F) (-l);rw[show l-(F:Int) + -l = -F by omega,show -(l-(F:Int))=F-l by omega,show -(-l)=l by omega,show -(-(F:Int))=F by omega,q0c (n:=-(F:Int)) (by omega),k0J,q1a] at k;have a:m*p2 (l-F)*p2 (-l)=m*(p2 (l-F)*p2 (-l)):=k0h _ _ _;have c:0<p2 (l-F)*p2 (-l):=k0j (q0l _) (q0l _);constructor
 ·rw[k,a];exact k0n _ h1
 ·rw[k,a,show 2*(2^F*(p2 (l-F)*p2 (-l)))=2^(F+1)*(p2 (l-F)*p2 (-l)) by rw[k0a];grind];exact k0z h2 c
theorem q7j:q0I (2^(F+1)*p2 (l-F)) (p2 (F-l))=l+1:=by
 have k:=q31 (l-F) 1;rw[show l-(F:Int)+1=l+1-F by omega,show -(l-(F:Int))=F-l by omega,show -(l+1-(F:Int))=F-(l+1) by omega,show p2 (-1)=1 from rfl,show p2 1=2 from rfl,k0u] at k;rw[<- q5Q (F:=F) (m:=2^F) (l:=l+1) lr (by rw[k0a];have:=k0c F;omega)];refine q3Y (k0j (k0c _) (q0l _)) (q0l _) (q0l _) ?_
 calc 2^(F+1)*p2 (l-F)*p2 (F-(l+1))=2^F*(p2 (F-(l+1))*(p2 (l-F)*2)):=by rw[k0a];grind
  _=2^F*(p2 (l+1-F)*p2 (F-l)):=by rw[k]
  _=_:=by grind
theorem q8J:lp ((m*p2 (l-F)*p2 (F-l):Nat):Int) (p2 (F-l)*p2 (-(F-l)))=m:=by rw[k0h];refine q4o (k0j (q0l _) (q0l _)) ?_;rw[show -((F:Int)-l)=l-F by omega,k0b]
theorem q7i:lp ((2^(F+1)*p2 (l-F)*p2 (F-(l+1)):Nat):Int) (p2 (F-l)*p2 (-(F-(l+1))))=(2^F:Nat):=by
 have k:=q31 (l-F) 1;rw[show l-(F:Int)+1=l+1-F by omega,show -(l-(F:Int))=F-l by omega,show -(l+1-(F:Int))=F-(l+1) by omega,show p2 (-1)=1 from rfl,show p2 1=2 from rfl,k0u] at k;rw[show 2^(F+1)*p2 (l-F)*p2 (F-(l+1))=2^F*(2*p2 (l-F)*p2 (F-(l+1))) by rw[k0a];grind];refine q4o (k0j (q0l _) (q0l _)) ?_;rw[show -((F:Int)-(l+1))=l+1-F by omega,k0b (p2 (F-l)),k]
 grind
theorem qao{e:Int}(ha:0<a)(hb:0<b)(h:b*p2 e<=a*p2 (-e)):e<=q0I a b:=by
 rcases k17 (q0I a b) e with k|k
 ·have:=q3i k (q0T ha hb).2;omega
 ·exact k
theorem qar{e:Int}(ha:0<a)(hb:0<b)(h:a*p2 (-e)<b*p2 e):q0I a b<e:=by
 rcases k17 (q0I a b) e with k|k
 ·exact k
 ·have:=q8T k (q0T ha hb).1;omega
theorem qa8(h:q09 E<q0I a b):out E F neg mode a b=(if inner neg mode then q1X E F-1 else q1X E F,3):=by
 have:over E F neg mode a b=true:=by unfold over q0x;rw[k1C,k1r];left;omega
 unfold out;rw[k0q this]
theorem q8L(hE:2<=E)(hF:1<=F)(ha:0<a)(hb:0<b)(h:q0I a b < -q09 E-F-1):out E F neg mode a b=(if q3h neg mode ql (-1) then 1 else 0,5):=by
 have t:=q0X hE;have c:q0x E a b=1-q09 E:=by unfold q0x;omega
 have e:=(q0T ha hb).2;have u:4*(a*p2 (F-(1-q09 E)))<b:=by
  have g:p2 (-q0I a b)=8*p2 (F-(1-q09 E))*p2 (-q0I a b-(F-(1-q09 E))-3):=by have i:=q1r (m:=3) (n:=F-(1-q09 E)) (by omega) (by omega);have f:=q1r (m:=3+(F-(1-q09 E))) (n:=-q0I a b-(F-(1-q09 E))-3) (by omega) (by omega);rw[show(3:Int)+(F-(1-q09 E))+(-q0I a b-(F-(1-q09 E))-3) = -q0I a b by omega,i] at f;exact f
  rw[q0c (n:=q0I a b) (by omega),k0u,g] at e;have j:=q0l (-q0I a b-(F-(1-q09 E))-3);have v:a*(8*p2 (F-(1-q09 E)))*1<=a*(8*p2 (F-(1-q09 E)))*p2 (-q0I a b-(F-(1-q09 E))-3):=k0g _ j;have k:a*(8*p2 (F-(1-q09 E))*p2 (-q0I a b-(F-(1-q09 E))-3))=a*(8*p2 (F-(1-q09 E)))*p2 (-q0I a b-(F-(1-q09 E))-3):=by grind
  rw[k] at e;have w:a*(8*p2 (F-(1-q09 E)))=8*(a*p2 (F-(1-q09 E))):=by grind
  omega
 have r:0<a*p2 (F-(1-q09 E)):=k0j ha (q0l _);have l:q4g E F a b=a*p2 (F-(1-q09 E)):=by unfold q4g;rw[c,q0c (n:=1-q09 E-F) (by omega),k0u];exact k0D (by omega)
 have o:q2m E F neg mode a b=if q3h neg mode ql (-1) then 1 else 0:=by unfold q2m rnd;rw[c,q0c (n:=1-q09 E-F) (by omega),k0u,k0D (by omega),k0R (by omega),k0t (by omega),q1I (by omega)];rfl
 have d:q1J E F neg mode a b=if q3h neg mode ql (-1) then 1 else 0:=by unfold q1J;rw[o,c,show(1-q09 E+q09 E-1).toNat=0 by omega];simp
 have hi:=q9z (F:=F) hE;have s:2^1<=2^F:=k04 (by omega) hF;have p:over E F neg mode a b=ql:=by unfold over;rw[d,c,Bool.or_eq_false_iff,k11,k11];refine⟨by omega,?_⟩;have x:3*((2^F:Nat):Int)<=(2*q09 E+1)*(2^F:Nat):=k1g (by omega) (by omega);split<;>omega
 have q:q2k E F neg mode a b=true:=by unfold q2k;rw[k0U,k1C,k1r,k1r];exact⟨by omega,.inl (by omega)⟩
 unfold out q1b;rw[p,k0t (by decide),d,l,k0t (show ¬a*p2 (F-(1-q09 E))=0 by omega),q,k0q rfl]
def q3M(n K:Int):Int:=max (-K) (min n K)
theorem q8M(f g:Int->Nat)(K n:Int)(hE:2<=E)(hE':E<=11)(hF:1<=F)(hF':F<=52)(hK:0<=K)(hf:∀n,0<f n)(hg:∀n,0<g n)
  (h1:∀n,K<=n->g n*p2 1200<=f n) (h2:∀n,n <= -K->f n*p2 1200<g n):out E F neg mode (f (q3M n K)) (g (q3M n K))=out E F neg mode (f n) (g n):=by
 have d:=q22 hE';have a:∀n,K<=n->out E F neg mode (f n) (g n)=(if inner neg mode then q1X E F-1 else q1X E F,3):=fun n hn=>by have:=qao (e:=1200) (hf n) (hg n) (by rw[q0c (n:=-1200) (by omega),k0u];exact h1 n hn);exact qa8 (by omega)
 have b:∀n,n <= -K->out E F neg mode (f n) (g n)=(if q3h neg mode ql (-1) then 1 else 0,5):=fun n hn=>by have:=qar (e:=-1200) (hf n) (hg n) (by rw[q0c (n:=-1200) (by omega),k0u];exact h2 n hn);exact q8L hE hF (hf n) (hg n) (by omega)
 unfold q3M;rcases k17 n (-K) with h|h
 ·rw[show max (-K) (min n K) = -K by omega,b _ (Int.le_refl _),b _ (by omega)]
 ·rcases k17 K n with c|c
  ·rw[show max (-K) (min n K)=K by omega,a _ (Int.le_refl _),a _ (by omega)]
  ·rw[show max (-K) (min n K)=n by omega]
theorem q9r(x:Nat)(y:Int):2^x*p2 y=2^(x+y.toNat):=by unfold p2;rw[k0i]
theorem q9o(k:Nat):2^k<=10^k:=k1o (by omega) k
def t10(n:Int):Nat:=10^n.toNat
theorem q2r(n:Int):0<t10 n:=k1p (by omega)
theorem q7q(c:Int)(n:Int)(hE:2<=E)(hE':E<=11)(hF:1<=F)(hF':F<=52)(ha:0<a)(hb:0<b)(hc:1200<=c):out E F neg mode (a*t10 (q3M n (bl a+bl b+c))) (b*t10 (-q3M n (bl a+bl b+c)))=out E F neg mode (a*t10 n) (b*t10 (-n)):=by
 refine q8M (fun n=>a*t10 n) (fun n=>b*t10 (-n)) _ n hE hE' hF hF' (by omega) (fun n=>k0j ha (q2r _)) (fun n=>k0j hb (q2r _)) (fun n hn=>?_) (fun n hn=>?_)
 ·have d:t10 (-n)=1:=by unfold t10;rw[show(-n).toNat=0 by omega]
  show b*t10 (-n)*p2 1200<=a*t10 n;rw[d,k0u]
  calc b*p2 1200<=2^bl b*p2 1200:=k1S (k1a (q0S b)) lr
   _=2^(bl b+(1200:Int).toNat):=q9r _ _
   _<=2^n.toNat:=k04 (by omega) (by omega)
   _<=t10 n:=q9o _
   _<=a*t10 n:=k1y _ ha
 ·have d:t10 n=1:=by unfold t10;rw[show n.toNat=0 by omega]
  show a*t10 n*p2 1200<b*t10 (-n);rw[d,k0u]
  calc a*p2 1200<2^bl a*p2 1200:=k0z (q0S a) (q0l _)
   _=2^(bl a+(1200:Int).toNat):=q9r _ _
   _<=2^(-n).toNat:=k04 (by omega) (by omega)
   _<=t10 (-n):=q9o _
   _<=b*t10 (-n):=k1y _ hb
end
end Go.Proofs.YtabcgemembkkcaaGreatDoor
