/- Lemmas. -/
import Derived.Test.YtabcgemembkkcaaGreatDoorMirrAH
import Derived.Test.YtabcgemembkkcaaGreatDoorMirrAB
set_option linter.all false
open Go renaming World->qa,heap_alloc_new->qd,Addr->qk,Value->qp
open Decidable renaming decide->qb
open Option renaming none->qc,some->qe
open Nat renaming gcd_div_gcd_div_gcd_of_pos_right->qf,Coprime.mul_left->qh,Coprime.coprime_dvd_right->qi,gcd_pos_of_pos_right->qj,div_mul_cancel->qm,Coprime.symm->qn
open Go.RowKit renaming Below->qg
open Bool renaming false->ql,false_and->qo
namespace Go.Proofs.YtabcgemembkkcaaGreatDoor
variable{w w':qa}{a b g o c B n g' o' N k y d P Q E F mode:Nat}{v u p q u1 u2 x m:Int}{A:Option qk}{xs:List Nat}{e:Ending}{neg:Bool}
section
open Go Go.RowKit
theorem q0o{a b:qk}{v:qp}(h:a≠b):(w.setCell a v).cell? b=w.cell? b:=World.cell?_setCell_other w a b v h
theorem q0p{a:qk}{u v:qp}(h:w.cell? a=qe u):(w.setCell a v).cell? a=qe v:=World.cell?_setCell_same w a v h
structure Fm(g o:Nat)(w w':qa):Prop where
 os:w'.os=w.os
 tape:w'.tape=w.tape
 output:w'.output=w.output
 size:w.heap.size<=w'.heap.size
 block:∀k,k<w.heap.size->k≠g->w'.heap[k]?=w.heap[k]?
 cell:∀j,j≠o->j≠o+1->w'.cell? ⟨g,j,qc⟩=w.cell? ⟨g,j,qc⟩
 frozen:∀j,w'.frozen? ⟨g,j,qc⟩=w.frozen? ⟨g,j,qc⟩
theorem Fm.refl(g o:Nat)(w:qa):Fm g o w w:=⟨rfl,rfl,rfl,lr,fun _ _ _=>rfl,fun _ _ _=>rfl,fun _=>rfl⟩
theorem Fm.trans{a b c:qa}(h:Fm g o a b)(k:Fm g o b c):Fm g o a c:=⟨k.os.trans h.os,k.tape.trans h.tape,k.output.trans h.output,k06 h.size k.size,fun i hi hn=>(k.block i (k02 hi h.size) hn).trans (h.block i hi hn),fun j h1 h2=>(k.cell j h1 h2).trans (h.cell j h1 h2),fun j=>(k.frozen j).trans (h.frozen j)⟩
theorem q0M{p:qk}(h:w'.heap[p.block]?=w.heap[p.block]?):w'.frozen? p=w.frozen? p:=by simp only[World.frozen?,h]
theorem Fm.of_below(h:qg w.heap.size w w')(hg:g<w.heap.size):Fm g o w w':=⟨h.os,h.tape,h.output,h.size,fun k hk _=>h.block k hk,fun j _ _=>World.cell?_of_block (h.block g hg),fun j=>q0M (p:=⟨g,j,qc⟩) (h.block g hg)⟩
theorem Fm.set0{j:Nat}(w:qa)(v:qp)(hp:j=o\/j=o+1):Fm g o w (w.setCell ⟨g,j,qc⟩ v):=⟨rfl,rfl,rfl,by simp [World.setCell],fun k _ hn=>Below.heap_setCell w ⟨g,j,qc⟩ v k (show k≠g from hn),fun i h1 h2=>q0o (fun e=>by injection e with _ e;omega),fun i=>World.frozen?_setCell _ _ _ _⟩
theorem Fm.drew(h:Fm g o w w'):Fm g o w w'.drew:=⟨h.os,h.tape,h.output,h.size,h.block,h.cell,h.frozen⟩
theorem Fm.undrew(h:Fm g o w.drew w'):Fm g o w w':=⟨h.os,h.tape,h.output,h.size,h.block,h.cell,h.frozen⟩
theorem Fm.below{a:qa}(hb:qg B a w)(h:Fm g o w w')(hB:B<=w.heap.size)(hg:B<=g):qg B a w':=⟨h.os.trans hb.os,h.tape.trans hb.tape,h.output.trans hb.output,k06 hb.size h.size,fun k hk=>(h.block k (by omega) (by omega)).trans (hb.block k hk)⟩
structure IntAt(w:qa)(g o:Nat)(v:Int):Prop where
 lt:g<w.heap.size
 head:∃x,w.cell? ⟨g,0,qc⟩=qe (.bool x)
 fz:∀j,w.frozen? ⟨g,j,qc⟩=ql
 ex:∃A n c,w.cell? ⟨g,o,qc⟩=qe (.bool (qb (v<0)))/\w.cell? ⟨g,o+1,qc⟩=qe (.slice A n c)/\Rd w A n c (toL v.natAbs)/\∀a,A=qe a->a.off=0
theorem Rd.apart(h:Rd w A n c xs)(h0:∀a,A=qe a->a.off=0)(hd:∃x,w.cell? ⟨g,0,qc⟩=qe (.bool x))(hn:0<n):∀a,A=qe a->a.block≠g:=by intro a e i;obtain⟨b,off,d,_,j⟩:=h.cell hn;obtain⟨x,hx⟩:=hd;rw[d] at e;cases e;have:=h0 _ d;subst i;have f:=j 0 hn;simp only at this;subst this;rw[hx] at f;cases f
theorem Rd.zero(h:Rd w A 0 c xs):Rd w' A 0 c xs:=⟨h.len,h.le,h.sm,h.lim,fun hn=>absurd hn (by omega)⟩
theorem Rd.fm(h:Rd w A n c xs)(hf:Fm g o w w')(hne:0<n->∀a,A=qe a->a.block≠g):Rd w' A n c xs:=⟨h.len,h.le,h.sm,h.lim,fun hn=>by obtain⟨b,off,e,hlt,hc⟩:=h.cell hn;refine⟨b,off,e,k02 hlt hf.size,fun j hj=>?_⟩;rw[<- hc j hj];exact World.cell?_of_block (a:=⟨b,off+j,qc⟩) (hf.block b hlt (hne hn _ e))⟩
theorem Fm.headAt(hf:Fm g o w w')(h':∃x,w'.cell? ⟨g,0,qc⟩=qe (.bool x))(hlt:g'<w.heap.size)(h:∃x,w.cell? ⟨g',0,qc⟩=qe (.bool x)):∃x,w'.cell? ⟨g',0,qc⟩=qe (.bool x):=by
 by_cases e:g'=g
 ·subst e;exact h'
 ·obtain⟨x,hx⟩:=h;exact⟨x,(World.cell?_of_block (a:=⟨g',0,qc⟩) (hf.block g' hlt e)).trans hx⟩
theorem IntAt.fm(h:IntAt w g' o' v)(hf:Fm g o w w')(hd:∃x,w.cell? ⟨g,0,qc⟩=qe (.bool x))(hd':∃x,w'.cell? ⟨g,0,qc⟩=qe (.bool x))(hne:g'≠g\/o'+1<o\/o+1<o'):IntAt w' g' o' v:=by
 obtain⟨A,n,c,b,d,f,i⟩:=h.ex;refine⟨k02 h.lt hf.size,hf.headAt hd' h.lt h.head,fun j=>?_,A,n,c,?_,?_,f.fm hf (f.apart i hd),i⟩
 ·by_cases e:g'=g
  ·subst e;rw[hf.frozen];exact h.fz j
  ·rw[<- h.fz j];exact q0M (p:=⟨g',j,qc⟩) (hf.block g' h.lt e)
 ·by_cases e:g'=g
  ·subst e;rw[hf.cell _ (by omega) (by omega)];exact b
  ·rw[<- b];exact World.cell?_of_block (a:=⟨g',o',qc⟩) (hf.block g' h.lt e)
 ·by_cases e:g'=g
  ·subst e;rw[hf.cell _ (by omega) (by omega)];exact d
  ·rw[<- d];exact World.cell?_of_block (a:=⟨g',o'+1,qc⟩) (hf.block g' h.lt e)
theorem IntAt.below(h:IntAt w g o v)(hb:qg w.heap.size w w'):IntAt w' g o v:=by obtain⟨A,n,c,a,b,d,e⟩:=h.ex;obtain⟨x,hx⟩:=h.head;exact⟨k02 h.lt hb.size,⟨x,(hb.cell (p:=⟨g,0,qc⟩) h.lt).trans hx⟩,fun j=>(q0M (p:=⟨g,j,qc⟩) (hb.block g h.lt)).trans (h.fz j),A,n,c,(hb.cell (p:=⟨g,o,qc⟩) h.lt).trans a,(hb.cell (p:=⟨g,o+1,qc⟩) h.lt).trans b,d.below hb rfl,e⟩
theorem IntAt.like(h:IntAt w g o v)(e:w'.heap=w.heap):IntAt w' g o v:=by obtain⟨A,n,c,a,b,d,f⟩:=h.ex;obtain⟨x,hx⟩:=h.head;exact⟨by rw[e];exact h.lt,⟨x,by rw[<- hx];simp only[World.cell?,e]⟩,fun j=>by rw[<- h.fz j];simp only[World.frozen?,e],A,n,c,by rw[<- a];simp only[World.cell?,e],by rw[<- b];simp only[World.cell?,e],d.like e,f⟩
theorem IntAt.drew(h:IntAt w g o v):IntAt w.drew g o v:=h.like rfl
def put(w:qa)(g o:Nat)(b:Bool)(s:qp):qa:=(w.setCell ⟨g,o+1,qc⟩ s).setCell ⟨g,o,qc⟩ (.bool b)
theorem q72(w:qa)(g o:Nat)(b:Bool)(s:qp):Fm g o w (put w g o b s):=(Fm.set0 w s (.inr rfl)).trans (Fm.set0 _ _ (.inl rfl))
theorem q8B(h:IntAt w g o v)(b:Bool)(A:Option qk)(n c:Nat):∃x,(put w g o b (.slice A n c)).cell? ⟨g,0,qc⟩=qe (.bool x):=by
 obtain⟨a,d,f,i,j,k,l⟩:=h.ex;obtain⟨x,hx⟩:=h.head;rcases k01 o with rfl|m
 ·exact⟨b,q0p (u:=.bool x) ((q0o (fun e=>by injection e with _ e;omega)).trans hx)⟩
 ·refine⟨x,(q0o (fun e=>by injection e with _ e;omega)).trans ((q0o (fun e=>by injection e with _ e;omega)).trans hx)⟩
theorem IntAt.put(h:IntAt w g o v){b:Bool}(hb:b=qb (u<0))(hr:Rd w A n c (toL u.natAbs))(hz:∀a,A=qe a->a.off=0):IntAt (put w g o b (.slice A n c)) g o u:=by
 obtain⟨m,p,q,f,i,k,l⟩:=h.ex;have d:=q72 w g o b (.slice A n c);refine⟨k02 h.lt d.size,q8B h b A n c,fun j=>by rw[d.frozen];exact h.fz j,A,n,c,?_,?_,hr.fm d (hr.apart hz h.head),hz⟩
 ·rw[<- hb];exact q0p (u:=.bool (qb (v<0))) ((q0o (fun e=>by injection e with _ e;omega)).trans f)
 ·exact(q0o (fun e=>by injection e with _ e;omega)).trans (q0p i)
theorem q2N(h:0<=u):qb (u<0)=(ql && qb (0<N)):=by rw[qo,k17];omega
theorem q9T(u:Int):qb (u<0)=(qb (u<0) && qb (0<u.natAbs)):=by
 rcases k0K u 0 with h|h|h
 ·rw[k03 h,k2M,eq_comm,k2F];omega
 ·subst h;rfl
 ·rw[k00 (by omega),qo]
theorem q4r(u:Int):qb (-u<0)=(!qb (u<0) && qb (0<u.natAbs)):=by
 rcases k0K u 0 with h|h|h
 ·rw[k03 h,k00 (by omega)];rfl
 ·subst h;rfl
 ·rw[k00 (p:=u<0) (by omega),k2p,k2M,k03 (by omega),k03 (by omega)]
theorem q2u(u v:Int):qb (u*v<0)=(qb (u<0) != qb (v<0) && qb (0<u.natAbs*v.natAbs)):=by
 rcases k0K u 0 with h|h|h
 ·rcases k0K v 0 with k|k|k
  ·have:=Int.mul_pos_of_neg_of_neg h k;rw[k03 h,k03 k,k00 (by omega)];rfl
  ·subst k;simp
  ·have:=k2q h k;have a:0<u.natAbs*v.natAbs:=k0l (by omega) (by omega);rw[k03 h,k00 (p:=v<0) (by omega),k03 this,k03 a];rfl
 ·subst h;simp
 ·rcases k0K v 0 with k|k|k
  ·have:=Int.mul_neg_of_pos_of_neg h k;have a:0<u.natAbs*v.natAbs:=k0l (by omega) (by omega);rw[k00 (p:=u<0) (by omega),k03 k,k03 this,k03 a];rfl
  ·subst k;simp
  ·have:=Int.mul_pos h k;rw[k00 (p:=u<0) (by omega),k00 (p:=v<0) (by omega),k00 (by omega)];rfl
def q0B(g o:Nat)(u:Int)(w:qa)(e:Ending)(w':qa):Prop:=
 e=.returned (.pointer (qe ⟨g,o,qc⟩))/\IntAt w' g o u/\Fm g o w w'
def Sz(n:Nat):Prop:=bl n<=8796093022208
theorem Sz.words(h:Sz n):words n<=274877906944:=by
 rcases k01 n with rfl|a
 ·simp [q0s]
 ·obtain⟨e,_⟩:=bl_words a;have:=q3s (bl_words a).2;unfold Sz at h;omega
theorem Rd.sz(h:Rd w A n c (toL N))(hs:Sz N):n<=274877906944:=by rw[<- h.words];exact hs.words
def sg(b:Bool)(N:Nat):Int:=if b then -(N:Int) else(N:Int)
theorem q0z(b:Bool)(N:Nat):(sg b N).natAbs=N:=by cases b<;>simp [sg]
theorem q1d(b:Bool)(N:Nat):qb (sg b N<0)=(b && qb (0<N)):=by
 cases b
 ·simp [sg]
 ·simp only[sg,k2S,k2M];congr 1;apply propext;omega
theorem q4V(u:Int):sg (qb (u<0)) u.natAbs=u:=by unfold sg;by_cases h:u<0<;>simp [h]<;>omega
theorem qbc(u:Int):sg (!qb (u<0)) u.natAbs = -u:=by unfold sg;by_cases h:u<0<;>simp [h]<;>omega
abbrev Ob:=Nat × Nat × Nat
structure Fs(l:List Ob)(w w':qa):Prop where
 os:w'.os=w.os
 tape:w'.tape=w.tape
 output:w'.output=w.output
 size:w.heap.size<=w'.heap.size
 block:∀k,k<w.heap.size->(∀p∈l,p.1≠k)->w'.heap[k]?=w.heap[k]?
 cell:∀k j,k<w.heap.size->(∀p∈l,p.1=k->j<p.2.1\/p.2.1+p.2.2<=j)->w'.cell? ⟨k,j,qc⟩=w.cell? ⟨k,j,qc⟩
 frozen:∀k j,k<w.heap.size->w'.frozen? ⟨k,j,qc⟩=w.frozen? ⟨k,j,qc⟩
 head:∀k,k<w.heap.size->(∃x,w.cell? ⟨k,0,qc⟩=qe (.bool x))->∃x,w'.cell? ⟨k,0,qc⟩=qe (.bool x)
 obj:∀p∈l,p.1<w.heap.size->∃x,w.cell? ⟨p.1,0,qc⟩=qe (.bool x)
theorem Fs.of_below(l:List Ob)(h:qg w.heap.size w w')(ho:∀p∈l,p.1<w.heap.size->∃x,w.cell? ⟨p.1,0,qc⟩=qe (.bool x)):Fs l w w':=⟨h.os,h.tape,h.output,h.size,fun k hk _=>h.block k hk,fun k j hk _=>World.cell?_of_block (a:=⟨k,j,qc⟩) (h.block k hk),fun k j hk=>q0M (p:=⟨k,j,qc⟩) (h.block k hk),fun k hk ⟨x,hx⟩=>⟨x,(World.cell?_of_block (a:=⟨k,0,qc⟩) (h.block k hk)).trans hx⟩,ho⟩
theorem Fs.of_nil(h:qg w.heap.size w w'):Fs [] w w':=Fs.of_below [] h (fun _ hp=>by cases hp)
theorem Fm.fs(h:Fm g o w w')(hv:IntAt w g o v)(hu:IntAt w' g o u):Fs [(g,o,2)] w w':=⟨h.os,h.tape,h.output,h.size,fun k hk hn=>h.block k hk (fun e=>hn _ (k0i.2 rfl) e.symm),fun k j hk hn=>by
   by_cases e:k=g
   ·subst e;have:j<o\/o+2<=j:=hn (k,o,2) (k0i.2 rfl) rfl;exact h.cell j (by omega) (by omega)
   ·exact World.cell?_of_block (a:=⟨k,j,qc⟩) (h.block k hk e),
  fun k j hk=>by
   by_cases e:k=g
   ·subst e;exact h.frozen j
   ·exact q0M (p:=⟨k,j,qc⟩) (h.block k hk e),
  fun k hk hx=>h.headAt hu.head hk hx,fun p hp _=>by rw[k0i.1 hp];exact hv.head⟩
theorem q0B.fs(h:q0B g o u w e w')(hv:IntAt w g o v):Fs [(g,o,2)] w w':=h.2.2.fs hv h.2.1
theorem Fs.trans{l l':List Ob}{a b c:qa}(h:Fs l a b)(k:Fs l' b c):Fs (l++l') a c:=⟨k.os.trans h.os,k.tape.trans h.tape,k.output.trans h.output,k06 h.size k.size,fun i hi hn=>(k.block i (k02 hi h.size) (fun p hp=>hn p (List.mem_append_right _ hp))).trans (h.block i hi (fun p hp=>hn p (List.mem_append_left _ hp))),fun i j hi hn=>(k.cell i j (k02 hi h.size) (fun p hp=>hn p (List.mem_append_right _ hp))).trans (h.cell i j hi (fun p hp=>hn p (List.mem_append_left _ hp))),fun i j hi=>(k.frozen i j (k02 hi h.size)).trans (h.frozen i j hi),fun i hi hx=>k.head i (k02 hi h.size) (h.head i hi hx),fun p hp hlt=>by
   rcases k2D.1 hp with hp|hp
   ·exact h.obj p hp hlt
   ·by_cases e:∃q∈l,q.1=p.1
    ·obtain⟨q,hq,e⟩:=e;have:=h.obj q hq (by omega)
     rwa [e] at this
    ·obtain⟨x,hx⟩:=k.obj p hp (k02 hlt h.size);exact⟨x,(World.cell?_of_block (a:=⟨p.1,0,qc⟩) (h.block p.1 hlt (fun q hq e'=>e ⟨q,hq,e'⟩))).symm.trans hx⟩⟩
theorem Fs.weak{l l':List Ob}(h:Fs l w w')(hsub:∀p∈l,p.1<w.heap.size->p∈l')(ho:∀p∈l',p.1<w.heap.size->∃x,w.cell? ⟨p.1,0,qc⟩=qe (.bool x)):Fs l' w w':=⟨h.os,h.tape,h.output,h.size,fun k hk hn=>h.block k hk (fun p hp e=>hn p (hsub p hp (by omega)) e),fun k j hk hn=>h.cell k j hk (fun p hp e=>hn p (hsub p hp (by omega)) e),h.frozen,h.head,ho⟩
theorem Fs.drop{l l':List Ob}(h:Fs l w w')(hsub:∀p∈l,p.1<w.heap.size->p∈l')(hl:∀p∈l',p∈l):Fs l' w w':=h.weak hsub (fun p hp=>h.obj p (hl p hp))
theorem Fs.drew{l:List Ob}(h:Fs l w w'):Fs l w w'.drew:=⟨h.os,h.tape,h.output,h.size,h.block,h.cell,h.frozen,h.head,h.obj⟩
theorem Fs.undrew{l:List Ob}(h:Fs l w.drew w'):Fs l w w':=⟨h.os,h.tape,h.output,h.size,h.block,h.cell,h.frozen,h.head,h.obj⟩
theorem Fs.below{l:List Ob}{a:qa}(h:Fs l w w')(hb:qg B a w)(hB:B<=w.heap.size)(hg:∀p∈l,B<=p.1):qg B a w':=⟨h.os.trans hb.os,h.tape.trans hb.tape,h.output.trans hb.output,k06 hb.size h.size,fun k hk=>(h.block k (by omega) (fun p hp e=>by have:=hg p hp;omega)).trans (hb.block k hk)⟩
theorem Rd.fs{l:List Ob}(h:Rd w A n c xs)(h0:∀a,A=qe a->a.off=0)(hf:Fs l w w'):Rd w' A n c xs:=⟨h.len,h.le,h.sm,h.lim,fun hn=>by obtain⟨b,off,e,hlt,hc⟩:=h.cell hn;refine⟨b,off,e,k02 hlt hf.size,fun j hj=>?_⟩;rw[<- hc j hj];refine World.cell?_of_block (a:=⟨b,off+j,qc⟩) (hf.block b hlt fun p hp hpb=>?_);obtain⟨x,hx⟩:=hf.obj p hp (by omega);have:=h0 _ e;simp only at this;subst this;have h2:=hc 0 hn;rw[hpb] at hx;rw[hx] at h2;cases h2⟩
theorem Std.fs{l:List Ob}(h:Std w)(hf:Fs l w w'):Std w':=by
 have b:w'.heap[0]?=w.heap[0]?:=hf.block _ h.2 fun p hp e=>by obtain⟨x,hx⟩:=hf.obj p hp (by rw[e];exact h.2);have a:=h.1 0 (by decide);rw[e] at hx;rw[hx] at a;cases a
 exact⟨fun j hj=>by rw[<- h.1 j hj];simp only[World.cell?,b],k02 h.2 hf.size⟩
theorem IntAt.fs{l:List Ob}(h:IntAt w g o v)(hf:Fs l w w')(hne:∀p∈l,p.1=g->o+2<=p.2.1\/p.2.1+p.2.2<=o):IntAt w' g o v:=by
 obtain⟨A,n,c,b,d,f,a⟩:=h.ex;refine⟨k02 h.lt hf.size,hf.head g h.lt h.head,fun j=>(hf.frozen g j h.lt).trans (h.fz j),A,n,c,?_,?_,f.fs a hf,a⟩
 ·rw[hf.cell g o h.lt fun p hp e=>by have:=hne p hp e;omega];exact b
 ·rw[hf.cell g (o+1) h.lt fun p hp e=>by have:=hne p hp e;omega];exact d
theorem IntAt.fs1(h:IntAt w g o v)(hf:Fs [(g',o',k)] w w')(hne:g'≠g):IntAt w' g o v:=h.fs hf fun p hp e=>by rw[k0i.1 hp] at e;exact absurd e hne
theorem q8t(u:Int)(k:Nat):qb (u*2^k<0)=(qb (u<0) && qb (0<u.natAbs*2^k)):=by
 have a:(0:Int)<2^k:=Int.pow_pos (by omega);have b:0<2^k:=k0c k;rcases k0K u 0 with h|h|h
 ·have:=k2q h a;have c:0<u.natAbs*2^k:=k0l (by omega) b;rw[k03 this,k03 h,k03 c];rfl
 ·subst h;simp
 ·have:=Int.mul_pos h a;rw[k00 (by omega),k00 (p:=u<0) (by omega)];rfl
theorem two_words(h:n<18446744073709551616):nth (toL n) 0+4294967296*nth (toL n) 1=n:=by
 have d:words n<=2:=q0X (by omega);have e:val (toL n)=n:=q04 n;unfold words at d
 match hl:toL n with
 | []=>rw[hl] at e;simp [nth,val] at *;omega
 | [a]=>rw[hl] at e;simp [nth,val] at *;omega
 | [a,b]=>rw[hl] at e;simp [nth,val] at *;omega
 | a::b::c::l=>rw[hl] at d;simp at d
theorem q7v{gr or:Nat}{a b:qa}(h:Fs ([]++([(gr,or,2),(g,o,2)]++([]++([(g,o,2)]++([]++[(gr,or,2)]))))) a b):Fs [(gr,or,2),(g,o,2)] a b:=h.drop (fun p hp _=>by simp only[k24,List.cons_append,k1b,k1h,k2G] at hp ⊢;rcases hp with h|h|h|h<;>simp [h])
  (fun p hp=>by simp only[k24,List.cons_append,k1b,k1h,k2G] at hp ⊢;rcases hp with h|h<;>simp [h])
def q1Z(a b:Int):Int:=if a<b then -1 else if b<a then 1 else 0
theorem q44{a b:Int}(h:a<b):q1Z a b = -1:=k0n h
theorem q45{a b:Int}(h:b<a):q1Z a b=1:=by unfold q1Z;rw[k0o (by omega),k0n h]
theorem q3q(a:Int):q1Z a a=0:=by unfold q1Z;rw[k0o (by omega),k0o (by omega)]
theorem q46{a b:Int}(h:¬a<0)(k:¬b<0):q1Z a b=q0F a.natAbs b.natAbs:=by
 rcases k0K a b with c|c|c
 ·rw[q44 c,q1y (by omega)]
 ·rw[c,q3q,q47 rfl]
 ·rw[q45 c,q2m (by omega)]
theorem qaw{a b:Int}(h:a<0)(k:b<0):q1Z a b = -q0F a.natAbs b.natAbs:=by
 rcases k0K a b with c|c|c
 ·rw[q44 c,q2m (by omega)]
 ·rw[c,q3q,q47 rfl];rfl
 ·rw[q45 c,q1y (by omega)];rfl
theorem q7U(x:Nat)(h:x<4294967296):bits .and .u32 (x:Int) 1=((x%2:Nat):Int):=by have:=u32_and_nat x 1 h (by omega);rw[Nat.and_one_is_mod] at this;exact this
theorem q4v(n:Nat):nth (toL n) 0%2=n%2:=by
 have b:val (toL n)=n:=q04 n
 match hl:toL n with
 | []=>rw[hl] at b;simp [nth,val] at *;omega
 | a::l=>rw[hl] at b;simp [nth,val] at *;omega
def q19(v:Int)(w:qa)(e:Ending)(w':qa):Prop:=∃g,e=.returned (.pointer (qe ⟨g,0,qc⟩))/\w.heap.size<=g/\IntAt w' g 0 v/\qg w.heap.size w w'
theorem IntAt.zero(w:qa)(t:TypeId):IntAt (w.alloc (.cells #[.bool ql,.slice qc 0 0] t)) w.heap.size 0 0:=⟨by simp,⟨ql,by simp only[World.cell?];rw[qd];rfl⟩,fun j=>by simp only[World.frozen?];rw[qd];simp,qc,0,0,by simp only[World.cell?];rw[qd];rfl,by simp only[World.cell?];rw[qd];rfl,by have:toL (0:Int).natAbs=[]:=rfl;rw[this];exact Rd.nil _,fun a e=>by cases e⟩
theorem q4B{a b r:Int}(hb:b≠0)(h:b*q+r=a)(h0:0<=r)(h1:r<b.natAbs):a/b=q/\a%b=r:=by
 have d:∀{b q:Int},0<b->b*q+r=a->r<b->a/b=q/\a%b=r:=fun {b q} c h h1 =>(Int.ediv_emod_unique c).2 ⟨by rw[k2T];exact h,h0,h1⟩
 rcases Int.lt_or_gt_of_ne hb with g|c
 ·obtain⟨f,e⟩:=d (b:=-b) (q:=-q) (by omega) (by rw[Int.neg_mul_neg];exact h) (by omega);rw[Int.ediv_neg] at f;rw[Int.emod_neg] at e;exact⟨by omega,e⟩
 ·exact d c h (by omega)
theorem qbN(h0:u2≠0)(hr:¬sg (qb (u1<0)) (u1.natAbs%u2.natAbs)<0):sg (qb (u1<0) != qb (u2<0)) (u1.natAbs/u2.natAbs)=u1/u2/\sg (qb (u1<0)) (u1.natAbs%u2.natAbs)=u1%u2:=by
 have f:=k0O u1.natAbs u2.natAbs;have g:=k0j u1.natAbs (y:=u2.natAbs) (by omega);have e:((u2.natAbs:Int)*(u1.natAbs/u2.natAbs:Nat)+(u1.natAbs%u2.natAbs:Nat))=(u1.natAbs:Int):=by rw[<- k08,<- k1g,f]
 generalize u1.natAbs/u2.natAbs=Q at *
 generalize u1.natAbs%u2.natAbs=R at *
 have:=q4B (a:=u1) (b:=u2) (q:=sg (qb (u1<0) != qb (u2<0)) Q) (r:=sg (qb (u1<0)) R) h0 ?_ (by omega) (by by_cases h:u1<0<;>simp [sg,h] at*<;> omega)
 ·exact⟨this.1.symm,this.2.symm⟩
 by_cases h:u1<0<;>by_cases k:u2<0
 ·have c:(u1.natAbs:Int) = -u1:=by omega
  have d:(u2.natAbs:Int) = -u2:=by omega
  rw[c,d] at e;simp [sg,h,k] at *
  try simp only[k0P,k2P] at *
  omega
 ·have c:(u1.natAbs:Int) = -u1:=by omega
  have d:(u2.natAbs:Int)=u2:=by omega
  rw[c,d] at e;simp [sg,h,k] at *
  try simp only[k0P,k2P] at *
  omega
 ·have c:(u1.natAbs:Int)=u1:=by omega
  have d:(u2.natAbs:Int) = -u2:=by omega
  rw[c,d] at e;simp [sg,h,k] at *
  try simp only[k0P,k2P] at *
  omega
 ·have c:(u1.natAbs:Int)=u1:=by omega
  have d:(u2.natAbs:Int)=u2:=by omega
  rw[c,d] at e;simp [sg,h,k] at *
  try simp only[k0P,k2P] at *
  omega
theorem qar(h0:u2≠0)(hr:sg (qb (u1<0)) (u1.natAbs%u2.natAbs)<0):sg (qb (u1<0) != qb (u2<0)) (u1.natAbs/u2.natAbs)+(if u2<0 then 1 else -1)=u1/u2/\((u2.natAbs-u1.natAbs%u2.natAbs:Nat):Int)=u1%u2:=by
 have i:=k0O u1.natAbs u2.natAbs;have j:=k0j u1.natAbs (y:=u2.natAbs) (by omega);have e:((u2.natAbs:Int)*(u1.natAbs/u2.natAbs:Nat)+(u1.natAbs%u2.natAbs:Nat))=(u1.natAbs:Int):=by rw[<- k08,<- k1g,i]
 generalize u1.natAbs/u2.natAbs=Q at *
 generalize u1.natAbs%u2.natAbs=R at *
 have f:u1<0:=by
  by_cases h:u1<0
  ·exact h
  ·simp [sg,h] at hr;omega
 have l:0<R:=by
  rcases k01 R with h|h
  ·subst h;simp [sg] at hr
  ·exact h
 have:=q4B (a:=u1) (b:=u2) (q:=sg (qb (u1<0) != qb (u2<0)) Q+(if u2<0 then 1 else -1)) (r:=((u2.natAbs-R:Nat):Int)) h0 ?_ (by omega) (by omega)
 ·exact⟨this.1.symm,this.2.symm⟩
 have g:(u1.natAbs:Int) = -u1:=by omega
 by_cases k:u2<0
 ·have c:(u2.natAbs:Int) = -u2:=by omega
  rw[g,c] at e;have d:((u2.natAbs-R:Nat):Int) = -u2-R:=by omega
  rw[d];simp [sg,f,k] at *
  try simp only[k0P,k2P,k2H] at *
  omega
 ·have c:(u2.natAbs:Int)=u2:=by omega
  rw[g,c] at e;have d:((u2.natAbs-R:Nat):Int)=u2-R:=by omega
  rw[d];simp [sg,f,k] at *
  try simp only[k0P,k2P,k2H] at *
  omega
theorem Sz.mono(h:Sz b)(hab:a<=b):Sz a:=k06 (q15 hab) h
theorem Sz.small(h:a<18446744073709551616):Sz a:=k06 (q0A (k:=64) h) (by omega)
def q6m(g o:Nat)(u:Int)(w:qa)(e:Ending)(w':qa):Prop:=e=.returned (.pointer (qe ⟨g,o,qc⟩))/\IntAt w' g o u/\Fs [(g,o,2)] w w'
theorem q0B.f(h:q0B g o u w e w')(hv:IntAt w g o v):q6m g o u w e w':=⟨h.1,h.2.1,h.fs hv⟩
theorem q6m.below{a:qa}(h:q6m g o u w e w')(hb:qg B a w)(hB:B<=w.heap.size)(hg:B<=g):qg B a w':=h.2.2.below hb hB (fun p hp=>by rw[k0i.1 hp];exact hg)
theorem q6m.after{a:qa}(h:q6m g o u w e w')(hb:qg a.heap.size a w):Fs [(g,o,2)] a w':=((Fs.of_nil hb).trans h.2.2).drop (fun p hp _=>hp) (fun p hp=>hp)
structure ExpInv(w:qa)(gb g1 g2:Nat)(A:Option qk)(n x y q:Nat)(wr:qa):Prop where
 by_:IntAt wr gb 0 0
 o:IntAt wr g1 0 ((x^q:Nat):Int)
 base:IntAt wr g2 0 (x:Int)
 words:Rd wr A n n (toL y)
 off:∀a,A=qe a->a.off=0
 bel:qg w.heap.size w wr
theorem ExpInv.step{wr:qa}{gb g1 g2 x q q':Nat}(h:ExpInv w gb g1 g2 A n x y q wr)(hP:q0B g1 0 u wr e w')(hu:u=((x^q':Nat):Int))(h1:w.heap.size<=g1)(hb:g1≠gb)(h2:g1≠g2):ExpInv w gb g1 g2 A n x y q' w':=by have a:=hP.f h.o;exact⟨h.by_.fs1 a.2.2 hb,by rw[<- hu];exact a.2.1,h.base.fs1 a.2.2 h2,h.words.fs h.off a.2.2,h.off,a.below h.bel h.bel.size h1⟩
theorem IntAt.nil(h:IntAt w g o 0):∃A c,w.cell? ⟨g,o+1,qc⟩=qe (.slice A 0 c):=by obtain⟨A,n,c,d,a,b,e⟩:=h.ex;have:n=0:=b.len.symm;subst this;exact⟨A,c,a⟩
theorem q3L(x s:Nat)(hx:x<4294967296):(bits .and .u32 ((x:Int)/2^s) 1==1)=qb (x/2^s%2=1):=by rw[q1N,q7U _ (k0F (k0e _ _) hx)];rcases k0Z (x/2^s) with h|h<;>rw[h]<;>rfl
theorem q2Q(y i:Nat):y/2^i=2*(y/2^(i+1))+y/2^i%2:=by rw[k0a,<- k0p];omega
theorem q4Y(y i:Nat):nth (toL y) (i/32)/2^(i%32)%2=y/2^i%2:=by
 rw[q0Z,q1q,<- k2o];have e:(2:Nat)^(i%32)*2=2^(i%32+1):=(k0a ..).symm;have a:(4294967296:Nat)=2^(i%32+1)*2^(31-i%32):=by rw[<- k0h,show i%32+1+(31-i%32)=32 by omega]
 rw[e,a,Nat.mod_mul_right_mod,<- e,k2o,k0p,<- k0h,show 32*(i/32)+i%32=i by omega]
def lp(p:Int)(d:Nat):Int:=sg (qb (p<0)) (p.natAbs/Nat.gcd p.natAbs d)
def ld(p:Int)(d:Nat):Nat:=d/Nat.gcd p.natAbs d
theorem q3f(p:Int)(d:Nat):(lp p d).natAbs=p.natAbs/Nat.gcd p.natAbs d:=q0z _ _
theorem q0e(hd:0<d):0<Nat.gcd n d:=qj _ hd
theorem q0S(hd:0<d):0<ld p d:=k1e (k13 hd (k0z _ _)) (q0e hd)
theorem q1P(p:Int)(d:Nat):(lp p d).natAbs<=p.natAbs:=by rw[q3f];exact k0e _ _
theorem q1Y(p:Int)(d:Nat):ld p d<=d:=k0e _ _
theorem q1F(hd:0<d):Nat.gcd (lp p d).natAbs (ld p d)=1:=by rw[q3f];exact qf hd
theorem q5D(p:Int)(d:Nat):lp p d*(Nat.gcd p.natAbs d:Nat)=p:=by
 have h:=qm (k15 p.natAbs d);have e:((p.natAbs/Nat.gcd p.natAbs d:Nat):Int)*(Nat.gcd p.natAbs d:Nat)=(p.natAbs:Int):=by rw[<- k08,h]
 unfold lp sg;by_cases k:p<0
 ·rw[k03 k,k0n rfl,k0P,e];omega
 ·rw[k00 k,k0o (by decide),e];omega
theorem qbD(p:Int)(d:Nat):ld p d*Nat.gcd p.natAbs d=d:=qm (k0z _ _)
theorem q0r(p:Int)(d:Nat):lp p d*d=p*ld p d:=by
 have a:=q5D p d;have b:((ld p d:Nat):Int)*(Nat.gcd p.natAbs d:Nat)=d:=by rw[<- k08,qbD]
 generalize ((Nat.gcd p.natAbs d:Nat):Int)=G at *
 calc lp p d*d=lp p d*(ld p d*G):=by rw[b]
  _=lp p d*G*ld p d:=by grind
  _=p*ld p d:=by rw[a]
theorem q50(d:Nat):lp 0 d=0:=by simp [lp,sg]
theorem qah(hd:0<d):ld 0 d=1:=by simp [ld,Nat.div_self hd]
theorem q3F:lp p d=0↔p=0:=by
 constructor
 ·intro h;have:=q5D p d;rw[h,Int.zero_mul] at this;exact this.symm
 ·rintro rfl;exact q50 d
theorem q2B(hd:0<d):lp p d<0↔p<0:=by
 have h:=q5D p d;have b:(0:Int)<(Nat.gcd p.natAbs d:Nat):=by have:=q0e (n:=p.natAbs) hd;omega
 generalize ((Nat.gcd p.natAbs d:Nat):Int)=G at *
 constructor
 ·intro k;rw[<- h];exact k2q k b
 ·intro k;rcases k1l (lp p d) 0 with a|a
  ·exact a
  ·have:=k0W a (Int.le_of_lt b);omega
theorem qaa(hd:0<d):(lp p d).sign=p.sign:=by
 rcases k0K p 0 with h|h|h
 ·rw[k0L h,k0L ((q2B hd).2 h)]
 ·subst h;rw[q50]
 ·rw[k0r h,k0r];have a:=(q2B (p:=p) hd);have b:=q3F (p:=p) (d:=d);omega
theorem q31(hd:0<d)(hy:0<y)(hc:Nat.gcd x.natAbs y=1)(h:x*d=p*y):lp p d=x/\ld p d=y:=by
 have j:=q0S (p:=p) hd;have c:=q1F (p:=p) hd;have f:=q0r p d;have e:lp p d*y=x*ld p d:=by
  have:(d:Int)*(lp p d*y)=d*(x*ld p d):=by
   calc (d:Int)*(lp p d*y)=lp p d*d*y:=by grind
    _=p*ld p d*y:=by rw[f]
    _=p*y*ld p d:=by grind
    _=x*d*ld p d:=by rw[h]
    _=_:=by grind
  exact Int.eq_of_mul_eq_mul_left (by omega) this
 have a:(lp p d).natAbs*y=x.natAbs*ld p d:=by
  have:=k0v Int.natAbs e
  rwa [k0B,k0B,k05,k05] at this
 have g:y ∣ ld p d:=by have:y ∣ x.natAbs*ld p d:=⟨(lp p d).natAbs,by rw[<- a,k0b]⟩;exact(qn hc).dvd_of_dvd_mul_left this
 have i:ld p d ∣ y:=by have:ld p d ∣ (lp p d).natAbs*y:=⟨x.natAbs,by rw[a,k0b]⟩;exact(qn c).dvd_of_dvd_mul_left this
 have b:=Nat.dvd_antisymm g i;refine⟨?_,b.symm⟩;rw[<- b] at e;exact Int.eq_of_mul_eq_mul_right (by omega) e
theorem q7m{e:Nat}(hd:0<d)(he:0<e)(h:p*e=q*d):lp p d=lp q e/\ld p d=ld q e:=by
 have:=q31 (x:=lp q e) (y:=ld q e) (p:=p) (d:=d) hd (q0S he) (q1F he) ?_
 ·exact⟨this.1,this.2⟩
 ·have k:=q0r q e;have:(e:Int)*(lp q e*d)=e*(p*ld q e):=by
   calc (e:Int)*(lp q e*d)=lp q e*e*d:=by grind
    _=q*ld q e*d:=by rw[k]
    _=q*d*ld q e:=by grind
    _=p*e*ld q e:=by rw[h]
    _=_:=by grind
  exact Int.eq_of_mul_eq_mul_left (by omega) this
theorem q1t(hd:0<d)(hc:Nat.gcd p.natAbs d=1):lp p d=p/\ld p d=d:=q31 hd hd hc rfl
theorem q9h{b:Bool}{D:Nat}(hD:0<D):Nat.gcd (sg b (N/Nat.gcd N D)).natAbs (D/Nat.gcd N D)=1/\sg b (N/Nat.gcd N D)*(D:Int)=sg b N*(D/Nat.gcd N D:Nat):=by
 refine⟨by rw[q0z];exact qf hD,?_⟩;have a:=q0e (n:=N) hD;have d:=k15 N D;have f:=k0z N D;obtain⟨x,hx⟩:=d;obtain⟨y,g⟩:=f;generalize Nat.gcd N D=G at *
 have e:N/G*D=N*(D/G):=by rw[hx,g,k10 _ a,k10 _ a];grind
 have c:((N/G:Nat):Int)*D=(N:Int)*(D/G:Nat):=by rw[<- k08,e,k08]
 cases b
 ·exact c
 ·show -((N/G:Nat):Int)*D = -(N:Int)*(D/G:Nat);rw[k0P,c,k0P]
theorem q7d(hb:0<b)(hd:0<d)(h1:Nat.gcd a b=1)(h2:Nat.gcd c d=1)(ha:0<a)(hc:0<c):Nat.gcd (a/Nat.gcd a d*(c/Nat.gcd c b)) (b/Nat.gcd c b*(d/Nat.gcd a d))=1/\(a/Nat.gcd a d*(c/Nat.gcd c b))*(b*d)=a*c*(b/Nat.gcd c b*(d/Nat.gcd a d)):=by
 have e:=k15 a d;have f:=k0z a d;have i:=k15 c b;have j:=k0z c b;have m:Nat.Coprime (a/Nat.gcd a d) (d/Nat.gcd a d):=k1U (q0e hd);have o:Nat.Coprime (c/Nat.gcd c b) (b/Nat.gcd c b):=k1U (q0e hb);have p:Nat.Coprime (a/Nat.gcd a d) (b/Nat.gcd c b):=(k1Q (k2f e) h1).coprime_dvd_right (k2f j);have q:Nat.Coprime (c/Nat.gcd c b) (d/Nat.gcd a d):=(k1Q (k2f i) h2).coprime_dvd_right (k2f f);refine⟨qh (k2h p m) (k2h o q),?_⟩;obtain⟨x,hx⟩:=e;obtain⟨y,r⟩:=f;obtain⟨u,s⟩:=i;obtain⟨v,t⟩:=j;have k:=q0e (n:=a) hd;have l:=q0e (n:=c) hb;generalize Nat.gcd a d=g at *
 generalize Nat.gcd c b=h at *
 subst hx s;rw[r,t,k10 _ k,k10 _ k,k10 _ l,k10 _ l]
 grind
theorem qaD{n:Int}(hP:0<P)(hQ:0<Q)(h1:Nat.gcd m.natAbs P=1)(h2:Nat.gcd n.natAbs Q=1):let g:=Nat.gcd P Q
  let s:=m*(Q/g:Nat)+n*(P/g:Nat)
  let h:=Nat.gcd s.natAbs g
  Nat.gcd (s.natAbs/h) (P/g*(Q/h))=1/\sg (qb (s<0)) (s.natAbs/h)*(P*Q:Nat)=(m*Q+n*P)*(P/g*(Q/h):Nat):=by
 intro g s h;have b:0<g:=q0e hQ;have p:g ∣ P:=k15 P Q;have q:g ∣ Q:=k0z P Q;have d:Nat.Coprime (P/g) (Q/g):=k1U b;obtain⟨x,hx⟩:=p;obtain⟨y,a⟩:=q;have e:P/g=x:=by rw[hx,k10 _ b]
 have o:Q/g=y:=by rw[a,k10 _ b]
 have f:s=m*y+n*x:=by show m*(Q/g:Nat)+n*(P/g:Nat)=_;rw[e,o]
 rw[e,o] at d;have i:0<h:=qj _ b;have r:h ∣ s.natAbs:=k15 _ _;obtain⟨z,c⟩:h ∣ g:=k0z _ _;have t:Nat.Coprime s.natAbs x:=by
  have j:Nat.Coprime m.natAbs x:=qi ⟨g,by rw[hx,k0b]⟩ h1;have l:Nat.Coprime (m*y).natAbs x:=by rw[k0B,k05];exact qh j d.symm
  have k:Int.gcd s x=Int.gcd (m*y) x:=by rw[f,Int.gcd_add_mul_right_left]
  exact k.trans l
 have u:Nat.Coprime s.natAbs y:=by
  have j:Nat.Coprime n.natAbs y:=qi ⟨g,by rw[a,k0b]⟩ h2;have l:Nat.Coprime (n*x).natAbs y:=by rw[k0B,k05];exact qh j d
  have k:Int.gcd s y=Int.gcd (n*x) y:=by rw[f,k2T,Int.gcd_add_mul_right_left]
  exact k.trans l
 have v:Q/h=y*z:=by rw[a,c,k0f,k10 _ i,k0b]
 have w:Nat.Coprime (s.natAbs/h) z:=by
  have:Nat.Coprime (s.natAbs/h) (g/h):=k1U i
  rwa [c,k10 _ i] at this
 have dv:=k2f r;rw[e,v];refine⟨k2h (k1Q dv t) (k2h (k1Q dv u) w),?_⟩;have C:sg (qb (s<0)) (s.natAbs/h)*(h:Nat)=s:=by have:=q5D s g;exact this
 generalize sg (qb (s<0)) (s.natAbs/h)=S at *
 have D:(m*Q+n*P)=g*s:=by
  rw[f];conv=>lhs;rw[hx,a]
  simp only[k08];grind
 rw[D,<- C]
 conv=>lhs;rw[hx,a]
 rw[show(g:Int)=((h*z:Nat):Int) by rw[<- c]];have E:((g*x*(g*y):Nat):Int)=((h*z*x*(h*z*y):Nat):Int):=by rw[<- c]
 rw[E];simp only[k08]
 grind
theorem q4b{n s:Int}(hP:0<P)(hQ:0<Q)(h1:Nat.gcd m.natAbs P=1)(h2:Nat.gcd n.natAbs Q=1)(hs:s=m*(Q/Nat.gcd P Q:Nat)+n*(P/Nat.gcd P Q:Nat)):Nat.gcd (s.natAbs/Nat.gcd s.natAbs (Nat.gcd P Q)) (P/Nat.gcd P Q*(Q/Nat.gcd s.natAbs (Nat.gcd P Q)))=1 /\sg (qb (s<0)) (s.natAbs/Nat.gcd s.natAbs (Nat.gcd P Q))*(P*Q:Nat)=(m*Q+n*P)*(P/Nat.gcd P Q*(Q/Nat.gcd s.natAbs (Nat.gcd P Q)):Nat):=by subst hs;exact qaD hP hQ h1 h2
def q20(w:qa)(A:Option qk)(n c d:Nat):Prop:=(n=0/\d=1\/0<n/\Rd w A n c (toL d))/\∀a,A=qe a->a.off=0
structure RatSh(w:qa)(g:Nat):Prop where
 int:∃v,IntAt w g 0 v
 c2:∃x,w.cell? ⟨g,2,qc⟩=qe x
structure RatAt(w:qa)(g:Nat)(p:Int)(d:Nat):Prop where
 num:IntAt w g 0 (lp p d)
 den:∃A n c,w.cell? ⟨g,2,qc⟩=qe (.slice A n c)/\q20 w A n c (ld p d)
 pos:0<d
theorem RatAt.lt(h:RatAt w g p d):g<w.heap.size:=h.num.lt
theorem RatAt.sh(h:RatAt w g p d):RatSh w g:=⟨⟨_,h.num⟩,by obtain⟨A,n,c,e,-⟩:=h.den;exact⟨_,e⟩⟩
theorem RatAt.cross{e:Nat}(h:RatAt w g p d)(he:0<e)(hx:p*e=q*d):RatAt w g q e:=by obtain⟨a,b⟩:=q7m h.pos he hx;exact⟨by rw[<- a];exact h.num,by rw[<- b];exact h.den,he⟩
theorem q20.below(h:q20 w A n c d)(hb:qg B w w')(hB:B=w.heap.size):q20 w' A n c d:=⟨h.1.imp id fun k=>⟨k.1,k.2.below hb hB⟩,h.2⟩
theorem q20.fs{l:List Ob}(h:q20 w A n c d)(hf:Fs l w w'):q20 w' A n c d:=⟨h.1.imp id fun k=>⟨k.1,k.2.fs h.2 hf⟩,h.2⟩
theorem q20.like(h:q20 w A n c d)(e:w'.heap=w.heap):q20 w' A n c d:=⟨h.1.imp id fun k=>⟨k.1,k.2.like e⟩,h.2⟩
theorem RatSh.below(h:RatSh w g)(hb:qg w.heap.size w w'):RatSh w' g:=by obtain⟨⟨v,a⟩,x,hx⟩:=h;exact⟨⟨v,a.below hb⟩,x,(hb.cell (p:=⟨g,2,qc⟩) a.lt).trans hx⟩
theorem RatAt.below(h:RatAt w g p d)(hb:qg w.heap.size w w'):RatAt w' g p d:=by obtain⟨A,n,c,e,a⟩:=h.den;exact⟨h.num.below hb,⟨A,n,c,(hb.cell (p:=⟨g,2,qc⟩) h.lt).trans e,a.below hb rfl⟩,h.pos⟩
theorem RatAt.like(h:RatAt w g p d)(e:w'.heap=w.heap):RatAt w' g p d:=by obtain⟨A,n,c,a,b⟩:=h.den;exact⟨h.num.like e,⟨A,n,c,by rw[<- a];simp only[World.cell?,e],b.like e⟩,h.pos⟩
theorem RatAt.drew(h:RatAt w g p d):RatAt w.drew g p d:=h.like rfl
theorem RatSh.like(h:RatSh w g)(e:w'.heap=w.heap):RatSh w' g:=by obtain⟨⟨v,a⟩,x,hx⟩:=h;exact⟨⟨v,a.like e⟩,x,by rw[<- hx];simp only[World.cell?,e]⟩
theorem RatAt.fs{l:List Ob}(h:RatAt w g p d)(hf:Fs l w w')(hne:∀q∈l,q.1≠g):RatAt w' g p d:=by obtain⟨A,n,c,e,a⟩:=h.den;exact⟨h.num.fs hf (fun q hq k=>absurd k (hne q hq)),⟨A,n,c,(hf.cell g 2 h.lt fun q hq k=>absurd k (hne q hq)).trans e,a.fs hf⟩,h.pos⟩
theorem RatAt.fs1(h:RatAt w g p d)(hf:Fs [(g',o',k)] w w')(hne:g'≠g):RatAt w' g p d:=h.fs hf fun q hq=>by rw[k0i.1 hq];exact hne
theorem RatSh.fs{l:List Ob}(h:RatSh w g)(hf:Fs l w w')(hne:∀q∈l,q.1≠g):RatSh w' g:=by obtain⟨⟨v,a⟩,x,hx⟩:=h;exact⟨⟨v,a.fs hf (fun q hq k=>absurd k (hne q hq))⟩,x,(hf.cell g 2 a.lt fun q hq k=>absurd k (hne q hq)).trans hx⟩
theorem RatSh.num(h:RatSh w g)(hP:q6m g 0 u w e w'):IntAt w' g 0 u/\∃x,w'.cell? ⟨g,2,qc⟩=qe x:=by obtain⟨⟨v,a⟩,x,hx⟩:=h;exact⟨hP.2.1,x,(hP.2.2.cell g 2 a.lt fun p hp _=>by rw[k0i.1 hp];right;exact lr).trans hx⟩
theorem Fs.set2(h:IntAt w g 0 v)(s:qp):Fs [(g,2,1)] w (w.setCell ⟨g,2,qc⟩ s):=by
 obtain⟨x,hx⟩:=h.head;refine⟨rfl,rfl,rfl,by simp [World.setCell],fun k _ hn=>Below.heap_setCell w ⟨g,2,qc⟩ s k (fun e=>hn _ (k0i.2 rfl) e.symm),fun k j _ hn=>q0o (fun e=>?_),fun k j _=>World.frozen?_setCell _ _ _ _,fun k _ hk=>?_,fun p hp _=>?_⟩
 ·injection e with e1 e2;have:=hn (g,2,1) (k0i.2 rfl) e1;simp only at this;omega
 ·obtain⟨y,a⟩:=hk;exact⟨y,(q0o (fun e=>by injection e with _ e;omega)).trans a⟩
 ·rw[k0i.1 hp];exact⟨x,hx⟩
theorem IntAt.set2(h:IntAt w g 0 v)(s:qp):IntAt (w.setCell ⟨g,2,qc⟩ s) g 0 v:=h.fs (Fs.set2 h s) fun p hp _=>by rw[k0i.1 hp];left;exact lr
theorem RatAt.made(h:IntAt w g 0 x)(hc:∃z,w.cell? ⟨g,2,qc⟩=qe z)(hd:q20 w A n c y)(hp:0<d)(hy:0<y)(h1:Nat.gcd x.natAbs y=1)(h2:x*d=p*y):RatAt (w.setCell ⟨g,2,qc⟩ (.slice A n c)) g p d:=by obtain⟨a,b⟩:=q31 hp hy h1 h2;obtain⟨z,e⟩:=hc;exact⟨by rw[a];exact h.set2 _,⟨A,n,c,q0p e,by rw[b];exact hd.fs (Fs.set2 h _)⟩,hp⟩
theorem fs3(h:Fs [(g,0,2),(g,2,1)] w w'):Fs [(g,0,3)] w w':=⟨h.os,h.tape,h.output,h.size,fun k hk hn=>h.block k hk fun p hp=>by
   simp only[k1b,k1h,k2G] at hp;rcases hp with rfl|rfl<;>exact hn (g,0,3) (k0i.2 rfl),
  fun k j hk hn=>h.cell k j hk fun p hp e=>by have:=hn (g,0,3) (k0i.2 rfl);simp only[k1b,k1h,k2G] at hp;rcases hp with rfl|rfl<;>(have:=this e;simp only at this ⊢;omega),
  h.frozen,h.head,fun p hp hlt=>by rw[k0i.1 hp] at hlt ⊢;exact h.obj (g,0,2) (by simp) hlt⟩
def q1X(g:Nat)(p:Int)(d:Nat)(w:qa)(e:Ending)(w':qa):Prop:=e=.returned (.pointer (qe ⟨g,0,qc⟩))/\RatAt w' g p d/\Fs [(g,0,3)] w w'
theorem q1X.below{a:qa}(h:q1X g p d w e w')(hb:qg B a w)(hB:B<=w.heap.size)(hg:B<=g):qg B a w':=h.2.2.below hb hB (fun p hp=>by rw[k0i.1 hp];exact hg)
theorem Fs.after{l:List Ob}{a:qa}(h:Fs l w w')(hb:qg a.heap.size a w):Fs l a w':=((Fs.of_nil hb).trans h).drop (fun p hp _=>hp) (fun p hp=>hp)
theorem q1X.cross{e':Nat}(h:q1X g p d w e w')(he:0<e')(hx:p*e'=q*d):q1X g q e' w e w':=⟨h.1,h.2.1.cross he hx,h.2.2⟩
def q4e(p:Int)(d:Nat)(w:qa)(e:Ending)(w':qa):Prop:=∃g,e=.returned (.pointer (qe ⟨g,0,qc⟩))/\w.heap.size<=g/\RatAt w' g p d/\qg w.heap.size w w'
theorem RatAt.zero(w:qa)(t:TypeId):RatAt (w.alloc (.cells #[.bool ql,.slice qc 0 0,.slice qc 0 0] t)) w.heap.size 0 1:=by have hi:IntAt (w.alloc (.cells #[.bool ql,.slice qc 0 0,.slice qc 0 0] t)) w.heap.size 0 0:=⟨by simp,⟨ql,by simp only[World.cell?];rw[qd];rfl⟩,fun j=>by simp only[World.frozen?];rw[qd];simp,qc,0,0,by simp only[World.cell?];rw[qd];rfl,by simp only[World.cell?];rw[qd];rfl,by have:toL (0:Int).natAbs=[]:=rfl;rw[this];exact Rd.nil _,fun a e=>by cases e⟩;exact⟨by rw[q50];exact hi,⟨qc,0,0,by simp only[World.cell?];rw[qd];rfl,.inl ⟨rfl,qah (by omega)⟩,fun a e=>by cases e⟩,by omega⟩
theorem Rd.den(h:Rd w A n c (toL d))(hd:0<d)(hz:∀a,A=qe a->a.off=0):q20 w A n c d:=by
 refine⟨.inr ⟨?_,h⟩,hz⟩;rcases k01 n with rfl|b
 ·have:=q06.1 h.words;omega
 ·exact b
theorem q20.nil(w:qa):q20 w qc 0 0 1:=⟨.inl ⟨rfl,rfl⟩,fun a e=>by cases e⟩
theorem q20.rd(h:q20 w A n c d):∃xs,Rd w A n c xs/\(n=0/\d=1/\xs=[]\/0<n/\xs=toL d):=by
 rcases h.1 with ⟨rfl,rfl⟩|⟨a,b⟩
 ·exact⟨[],⟨rfl,k0x _,k0x _,q0N,fun h=>absurd h (by omega)⟩,.inl ⟨rfl,rfl,rfl⟩⟩
 ·exact⟨_,b,.inr ⟨a,rfl⟩⟩
theorem q2l(hN:0<N)(hd:0<d):Nat.gcd (ld N d) (lp N d).natAbs=1/\((ld N d:Nat):Int)*(N:Nat)=(d:Int)*((lp N d).natAbs:Nat)/\0<(lp (N:Int) d).natAbs:=by
 have h:=q1F (p:=(N:Int)) hd;have k:=q0r (N:Int) d;have z:=q2B (p:=(N:Int)) hd;have a:=q3F (p:=(N:Int)) (d:=d);refine⟨by rw[k19];exact h,?_,by omega⟩;have:((lp (N:Int) d).natAbs:Int)=lp (N:Int) d:=by omega
 rw[this,k2A (d:Int),k,k2A]
def Sm(n:Nat):Prop:=bl n<=4294967296
theorem q0H(a b:Nat):bl (a*b)<=bl a+bl b:=q0A (by rw[k0h];exact Nat.mul_lt_mul'' (q0J a) (q0J b))
theorem q3t(a b:Nat):bl (a+b)<=max (bl a) (bl b)+1:=q0A (by have h1:=q0J a;have h2:=q0J b;have h3:2^bl a<=2^max (bl a) (bl b):=k04 (by omega) (Nat.le_max_left _ _);have h4:2^bl b<=2^max (bl a) (bl b):=k04 (by omega) (Nat.le_max_right _ _);rw[k0a];omega)
theorem Sm.sz(h:Sm n):Sz n:=by unfold Sm at h;unfold Sz;omega
theorem Sm.mono(h:Sm b)(hab:a<=b):Sm a:=k06 (q15 hab) h
theorem Sm.mul(h:Sm a)(k:Sm b):Sz (a*b):=by have:=q0H a b;unfold Sm at h k;unfold Sz;omega
end
section
open Go
theorem qae{e:Int}(ha:0<a)(hb:0<b)(h:b*p2 e<=a*p2 (-e)):e<=q1p a b:=by
 rcases k1l (q1p a b) e with k|k
 ·have:=q30 k (q1c ha hb).2;omega
 ·exact k
theorem qai{e:Int}(ha:0<a)(hb:0<b)(h:a*p2 (-e)<b*p2 e):q1p a b<e:=by
 rcases k1l (q1p a b) e with k|k
 ·exact k
 ·have:=q8L k (q1c ha hb).1;omega
theorem q9Z(h:q12 E<q1p a b):out E F neg mode a b=(if inner neg mode then q2P E F-1 else q2P E F,3):=by
 have:over E F neg mode a b=true:=by unfold over q21;rw[k1r,k2F];left;omega
 unfold out;rw[k0n this]
theorem q8E(hE:2<=E)(hF:1<=F)(ha:0<a)(hb:0<b)(h:q1p a b < -q12 E-F-1):out E F neg mode a b=(if q2U neg mode ql (-1) then 1 else 0,5):=by
 have t:=q5Q hE;have c:q21 E a b=1-q12 E:=by unfold q21;omega
 have e:=(q1c ha hb).2;have u:4*(a*p2 (F-(1-q12 E)))<b:=by
  have g:p2 (-q1p a b)=8*p2 (F-(1-q12 E))*p2 (-q1p a b-(F-(1-q12 E))-3):=by have i:=q2v (m:=3) (n:=F-(1-q12 E)) (by omega) (by omega);have f:=q2v (m:=3+(F-(1-q12 E))) (n:=-q1p a b-(F-(1-q12 E))-3) (by omega) (by omega);rw[show(3:Int)+(F-(1-q12 E))+(-q1p a b-(F-(1-q12 E))-3) = -q1p a b by omega,i] at f;exact f
  rw[q0l (n:=q1p a b) (by omega),k0A,g] at e;have j:=q0L (-q1p a b-(F-(1-q12 E))-3);have v:a*(8*p2 (F-(1-q12 E)))*1<=a*(8*p2 (F-(1-q12 E)))*p2 (-q1p a b-(F-(1-q12 E))-3):=k0g _ j;have k:a*(8*p2 (F-(1-q12 E))*p2 (-q1p a b-(F-(1-q12 E))-3))=a*(8*p2 (F-(1-q12 E)))*p2 (-q1p a b-(F-(1-q12 E))-3):=by grind
  rw[k] at e;have w:a*(8*p2 (F-(1-q12 E)))=8*(a*p2 (F-(1-q12 E))):=by grind
  omega
 have r:0<a*p2 (F-(1-q12 E)):=k0l ha (q0L _);have l:q6Z E F a b=a*p2 (F-(1-q12 E)):=by unfold q6Z;rw[c,q0l (n:=1-q12 E-F) (by omega),k0A];exact k0u (by omega)
 have o:q4L E F neg mode a b=if q2U neg mode ql (-1) then 1 else 0:=by unfold q4L rnd;rw[c,q0l (n:=1-q12 E-F) (by omega),k0A,k0u (by omega),k0N (by omega),k0o (by omega),q1y (by omega)];rfl
 have d:q18 E F neg mode a b=if q2U neg mode ql (-1) then 1 else 0:=by unfold q18;rw[o,c,show(1-q12 E+q12 E-1).toNat=0 by omega];simp
 have hi:=qbF (F:=F) hE;have s:2^1<=2^F:=k04 (by omega) hF;have p:over E F neg mode a b=ql:=by unfold over;rw[d,c,Bool.or_eq_false_iff,k17,k17];refine⟨by omega,?_⟩;have x:3*((2^F:Nat):Int)<=(2*q12 E+1)*(2^F:Nat):=k1p (by omega) (by omega);split<;>omega
 have q:q3x E F neg mode a b=true:=by unfold q3x;rw[k0T,k1r,k2F,k2F];exact⟨by omega,.inl (by omega)⟩
 unfold out q5K;rw[p,k0o (by decide),d,l,k0o (show ¬a*p2 (F-(1-q12 E))=0 by omega),q,k0n rfl]
def q3u(n K:Int):Int:=max (-K) (min n K)
theorem q8F(f g:Int->Nat)(K n:Int)(hE:2<=E)(hE':E<=11)(hF:1<=F)(hF':F<=52)(hK:0<=K)(hf:∀n,0<f n)(hg:∀n,0<g n)
  (h1:∀n,K<=n->g n*p2 1200<=f n) (h2:∀n,n <= -K->f n*p2 1200<g n):out E F neg mode (f (q3u n K)) (g (q3u n K))=out E F neg mode (f n) (g n):=by
 have c:=q7P hE';have big:∀n,K<=n->out E F neg mode (f n) (g n)=(if inner neg mode then q2P E F-1 else q2P E F,3):=fun n hn=>by have:=qae (e:=1200) (hf n) (hg n) (by rw[q0l (n:=-1200) (by omega),k0A];exact h1 n hn);exact q9Z (by omega)
 have a:∀n,n <= -K->out E F neg mode (f n) (g n)=(if q2U neg mode ql (-1) then 1 else 0,5):=fun n hn=>by have:=qai (e:=-1200) (hf n) (hg n) (by rw[q0l (n:=-1200) (by omega),k0A];exact h2 n hn);exact q8E hE hF (hf n) (hg n) (by omega)
 unfold q3u;rcases k1l n (-K) with h|h
 ·rw[show max (-K) (min n K) = -K by omega,a _ (Int.le_refl _),a _ (by omega)]
 ·rcases k1l K n with b|b
  ·rw[show max (-K) (min n K)=K by omega,big _ (Int.le_refl _),big _ (by omega)]
  ·rw[show max (-K) (min n K)=n by omega]
theorem q9j(x:Nat)(y:Int):2^x*p2 y=2^(x+y.toNat):=by unfold p2;rw[k0h]
theorem q9f(k:Nat):2^k<=10^k:=k1C (by omega) k
def t10(n:Int):Nat:=10^n.toNat
theorem q1w(n:Int):0<t10 n:=k1x (by omega)
theorem q4x(c:Int)(n:Int)(hE:2<=E)(hE':E<=11)(hF:1<=F)(hF':F<=52)(ha:0<a)(hb:0<b)(hc:1200<=c):out E F neg mode (a*t10 (q3u n (bl a+bl b+c))) (b*t10 (-q3u n (bl a+bl b+c)))=out E F neg mode (a*t10 n) (b*t10 (-n)):=by
 refine q8F (fun n=>a*t10 n) (fun n=>b*t10 (-n)) _ n hE hE' hF hF' (by omega) (fun n=>k0l ha (q1w _)) (fun n=>k0l hb (q1w _)) (fun n hn=>?_) (fun n hn=>?_)
 ·have d:t10 (-n)=1:=by unfold t10;rw[show(-n).toNat=0 by omega]
  show b*t10 (-n)*p2 1200<=a*t10 n;rw[d,k0A]
  calc b*p2 1200<=2^bl b*p2 1200:=k2e (k16 (q0J b)) lr
   _=2^(bl b+(1200:Int).toNat):=q9j _ _
   _<=2^n.toNat:=k04 (by omega) (by omega)
   _<=t10 n:=q9f _
   _<=a*t10 n:=k1z _ ha
 ·have d:t10 n=1:=by unfold t10;rw[show n.toNat=0 by omega]
  show a*t10 n*p2 1200<b*t10 (-n);rw[d,k0A]
  calc a*p2 1200<2^bl a*p2 1200:=k0E (q0J a) (q0L _)
   _=2^(bl a+(1200:Int).toNat):=q9j _ _
   _<=2^(-n).toNat:=k04 (by omega) (by omega)
   _<=t10 (-n):=q9f _
   _<=b*t10 (-n):=k1z _ hb
end
end Go.Proofs.YtabcgemembkkcaaGreatDoor
