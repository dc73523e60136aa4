/- Lemmas. -/
import Derived.Test.YtabcgemembkkcaaGreatDoorDigsAH
import Derived.Test.YtabcgemembkkcaaGreatDoorDigsAB
set_option linter.all false
open Go renaming World->qa,World.cell?_of_block->qc,heap_alloc_new->qe,Addr->ql,World.frozen?_setCell->qm,Value->qr
open Decidable renaming decide->qb
open Option renaming none->qd,some->qf
open Nat renaming gcd_div_gcd_div_gcd_of_pos_right->qg,Coprime.mul_left->qi,Coprime.coprime_dvd_right->qj,gcd_pos_of_pos_right->qk,div_mul_cancel->qo,Coprime.symm->qp
open Go.RowKit renaming Below->qh
open Bool renaming false->qn,false_and->qq
namespace Go.Proofs.YtabcgemembkkcaaGreatDoor
variable{w w':qa}{a b g o c B n g' o' N k y d P Q E F mode:Nat}{v u p q u1 u2 x m:Int}{A:Option ql}{xs:List Nat}{e:Ending}{neg:Bool}
section
open Go Go.RowKit
theorem q0u{a b:ql}{v:qr}(h:a≠b):(w.setCell a v).cell? b=w.cell? b:=World.cell?_setCell_other w a b v h
theorem q0v{a:ql}{u v:qr}(h:w.cell? a=qf u):(w.setCell a v).cell? a=qf v:=World.cell?_setCell_same w a v h
structure Fm(g o:Nat)(w w':qa):Prop where
 os:w'.os=w.os
 tape:w'.tape=w.tape
 output:w'.output=w.output
 size:w.heap.size<=w'.heap.size
 block:∀k,k<w.heap.size->k≠g->w'.heap[k]?=w.heap[k]?
 cell:∀j,j≠o->j≠o+1->w'.cell? ⟨g,j,qd⟩=w.cell? ⟨g,j,qd⟩
 frozen:∀j,w'.frozen? ⟨g,j,qd⟩=w.frozen? ⟨g,j,qd⟩
theorem Fm.refl(g o:Nat)(w:qa):Fm g o w w:=⟨rfl,rfl,rfl,lr,fun _ _ _=>rfl,fun _ _ _=>rfl,fun _=>rfl⟩
theorem Fm.trans{a b c:qa}(h:Fm g o a b)(k:Fm g o b c):Fm g o a c:=⟨k.os.trans h.os,k.tape.trans h.tape,k.output.trans h.output,k07 h.size k.size,fun i hi hn=>(k.block i (k03 hi h.size) hn).trans (h.block i hi hn),fun j h1 h2=>(k.cell j h1 h2).trans (h.cell j h1 h2),fun j=>(k.frozen j).trans (h.frozen j)⟩
theorem q0S{p:ql}(h:w'.heap[p.block]?=w.heap[p.block]?):w'.frozen? p=w.frozen? p:=by simp only[World.frozen?,h]
theorem Fm.of_below(h:qh w.heap.size w w')(hg:g<w.heap.size):Fm g o w w':=⟨h.os,h.tape,h.output,h.size,fun k hk _=>h.block k hk,fun j _ _=>qc (h.block g hg),fun j=>q0S (p:=⟨g,j,qd⟩) (h.block g hg)⟩
theorem Fm.set0{j:Nat}(w:qa)(v:qr)(hp:j=o\/j=o+1):Fm g o w (w.setCell ⟨g,j,qd⟩ v):=⟨rfl,rfl,rfl,by simp [World.setCell],fun k _ hn=>Below.heap_setCell w ⟨g,j,qd⟩ v k (show k≠g from hn),fun i h1 h2=>q0u (fun e=>by injection e with _ e;omega),fun i=>qm _ _ _ _⟩
theorem Fm.drew(h:Fm g o w w'):Fm g o w w'.drew:=⟨h.os,h.tape,h.output,h.size,h.block,h.cell,h.frozen⟩
theorem Fm.undrew(h:Fm g o w.drew w'):Fm g o w w':=⟨h.os,h.tape,h.output,h.size,h.block,h.cell,h.frozen⟩
theorem Fm.below{a:qa}(hb:qh B a w)(h:Fm g o w w')(hB:B<=w.heap.size)(hg:B<=g):qh B a w':=⟨h.os.trans hb.os,h.tape.trans hb.tape,h.output.trans hb.output,k07 hb.size h.size,fun k hk=>(h.block k (by omega) (by omega)).trans (hb.block k hk)⟩
structure IntAt(w:qa)(g o:Nat)(v:Int):Prop where
 lt:g<w.heap.size
 head:∃x,w.cell? ⟨g,0,qd⟩=qf (.bool x)
 fz:∀j,w.frozen? ⟨g,j,qd⟩=qn
 ex:∃A n c,w.cell? ⟨g,o,qd⟩=qf (.bool (qb (v<0)))/\w.cell? ⟨g,o+1,qd⟩=qf (.slice A n c)/\Rd w A n c (toL v.natAbs)/\∀a,A=qf a->a.off=0
theorem Rd.apart(h:Rd w A n c xs)(h0:∀a,A=qf a->a.off=0)(hd:∃x,w.cell? ⟨g,0,qd⟩=qf (.bool x))(hn:0<n):∀a,A=qf a->a.block≠g:=by intro a e i;obtain⟨b,off,d,_,j⟩:=h.cell hn;obtain⟨x,hx⟩:=hd;rw[d] at e;cases e;have:=h0 _ d;subst i;have f:=j 0 hn;simp only at this;subst this;rw[hx] at f;cases f
theorem Rd.zero(h:Rd w A 0 c xs):Rd w' A 0 c xs:=⟨h.len,h.le,h.sm,h.lim,fun hn=>absurd hn (by omega)⟩
theorem Rd.fm(h:Rd w A n c xs)(hf:Fm g o w w')(hne:0<n->∀a,A=qf a->a.block≠g):Rd w' A n c xs:=⟨h.len,h.le,h.sm,h.lim,fun hn=>by obtain⟨b,off,e,hlt,hc⟩:=h.cell hn;refine⟨b,off,e,k03 hlt hf.size,fun j hj=>?_⟩;rw[<- hc j hj];exact qc (a:=⟨b,off+j,qd⟩) (hf.block b hlt (hne hn _ e))⟩
theorem Fm.headAt(hf:Fm g o w w')(h':∃x,w'.cell? ⟨g,0,qd⟩=qf (.bool x))(hlt:g'<w.heap.size)(h:∃x,w.cell? ⟨g',0,qd⟩=qf (.bool x)):∃x,w'.cell? ⟨g',0,qd⟩=qf (.bool x):=by
 by_cases e:g'=g
 ·subst e;exact h'
 ·obtain⟨x,hx⟩:=h;exact⟨x,(qc (a:=⟨g',0,qd⟩) (hf.block g' hlt e)).trans hx⟩
theorem IntAt.fm(h:IntAt w g' o' v)(hf:Fm g o w w')(hd:∃x,w.cell? ⟨g,0,qd⟩=qf (.bool x))(hd':∃x,w'.cell? ⟨g,0,qd⟩=qf (.bool x))(hne:g'≠g\/o'+1<o\/o+1<o'):IntAt w' g' o' v:=by
 obtain⟨A,n,c,b,d,f,i⟩:=h.ex;refine⟨k03 h.lt hf.size,hf.headAt hd' h.lt h.head,fun j=>?_,A,n,c,?_,?_,f.fm hf (f.apart i hd),i⟩
 ·by_cases e:g'=g
  ·subst e;rw[hf.frozen];exact h.fz j
  ·rw[<- h.fz j];exact q0S (p:=⟨g',j,qd⟩) (hf.block g' h.lt e)
 ·by_cases e:g'=g
  ·subst e;rw[hf.cell _ (by omega) (by omega)];exact b
  ·rw[<- b];exact qc (a:=⟨g',o',qd⟩) (hf.block g' h.lt e)
 ·by_cases e:g'=g
  ·subst e;rw[hf.cell _ (by omega) (by omega)];exact d
  ·rw[<- d];exact qc (a:=⟨g',o'+1,qd⟩) (hf.block g' h.lt e)
theorem IntAt.below(h:IntAt w g o v)(hb:qh w.heap.size w w'):IntAt w' g o v:=by obtain⟨A,n,c,a,b,d,e⟩:=h.ex;obtain⟨x,hx⟩:=h.head;exact⟨k03 h.lt hb.size,⟨x,(hb.cell (p:=⟨g,0,qd⟩) h.lt).trans hx⟩,fun j=>(q0S (p:=⟨g,j,qd⟩) (hb.block g h.lt)).trans (h.fz j),A,n,c,(hb.cell (p:=⟨g,o,qd⟩) h.lt).trans a,(hb.cell (p:=⟨g,o+1,qd⟩) h.lt).trans b,d.below hb rfl,e⟩
theorem IntAt.like(h:IntAt w g o v)(e:w'.heap=w.heap):IntAt w' g o v:=by obtain⟨A,n,c,a,b,d,f⟩:=h.ex;obtain⟨x,hx⟩:=h.head;exact⟨by rw[e];exact h.lt,⟨x,by rw[<- hx];simp only[World.cell?,e]⟩,fun j=>by rw[<- h.fz j];simp only[World.frozen?,e],A,n,c,by rw[<- a];simp only[World.cell?,e],by rw[<- b];simp only[World.cell?,e],d.like e,f⟩
theorem IntAt.drew(h:IntAt w g o v):IntAt w.drew g o v:=h.like rfl
def put(w:qa)(g o:Nat)(b:Bool)(s:qr):qa:=(w.setCell ⟨g,o+1,qd⟩ s).setCell ⟨g,o,qd⟩ (.bool b)
theorem q7G(w:qa)(g o:Nat)(b:Bool)(s:qr):Fm g o w (put w g o b s):=(Fm.set0 w s (.inr rfl)).trans (Fm.set0 _ _ (.inl rfl))
theorem q9b(h:IntAt w g o v)(b:Bool)(A:Option ql)(n c:Nat):∃x,(put w g o b (.slice A n c)).cell? ⟨g,0,qd⟩=qf (.bool x):=by
 obtain⟨a,d,f,i,j,k,l⟩:=h.ex;obtain⟨x,hx⟩:=h.head;rcases k01 o with rfl|m
 ·exact⟨b,q0v (u:=.bool x) ((q0u (fun e=>by injection e with _ e;omega)).trans hx)⟩
 ·refine⟨x,(q0u (fun e=>by injection e with _ e;omega)).trans ((q0u (fun e=>by injection e with _ e;omega)).trans hx)⟩
theorem IntAt.put(h:IntAt w g o v){b:Bool}(hb:b=qb (u<0))(hr:Rd w A n c (toL u.natAbs))(hz:∀a,A=qf a->a.off=0):IntAt (put w g o b (.slice A n c)) g o u:=by
 obtain⟨m,p,q,f,i,k,l⟩:=h.ex;have d:=q7G w g o b (.slice A n c);refine⟨k03 h.lt d.size,q9b h b A n c,fun j=>by rw[d.frozen];exact h.fz j,A,n,c,?_,?_,hr.fm d (hr.apart hz h.head),hz⟩
 ·rw[<- hb];exact q0v (u:=.bool (qb (v<0))) ((q0u (fun e=>by injection e with _ e;omega)).trans f)
 ·exact(q0u (fun e=>by injection e with _ e;omega)).trans (q0v i)
theorem q2U(h:0<=u):qb (u<0)=(qn && qb (0<N)):=by rw[qq,k1i];omega
theorem qaD(u:Int):qb (u<0)=(qb (u<0) && qb (0<u.natAbs)):=by
 rcases k11 u 0 with h|h|h
 ·rw[k04 h,k37,eq_comm,k2s];omega
 ·subst h;rfl
 ·rw[k02 (by omega),qq]
theorem q5Y(u:Int):qb (-u<0)=(!qb (u<0) && qb (0<u.natAbs)):=by
 rcases k11 u 0 with h|h|h
 ·rw[k04 h,k02 (by omega)];rfl
 ·subst h;rfl
 ·rw[k02 (p:=u<0) (by omega),k2B,k37,k04 (by omega),k04 (by omega)]
theorem q4M(u v:Int):qb (u*v<0)=(qb (u<0) != qb (v<0) && qb (0<u.natAbs*v.natAbs)):=by
 rcases k11 u 0 with h|h|h
 ·rcases k11 v 0 with k|k|k
  ·have:=Int.mul_pos_of_neg_of_neg h k;rw[k04 h,k04 k,k02 (by omega)];rfl
  ·subst k;simp
  ·have:=k2C h k;have a:0<u.natAbs*v.natAbs:=k0N (by omega) (by omega);rw[k04 h,k02 (p:=v<0) (by omega),k04 this,k04 a];rfl
 ·subst h;simp
 ·rcases k11 v 0 with k|k|k
  ·have:=Int.mul_neg_of_pos_of_neg h k;have a:0<u.natAbs*v.natAbs:=k0N (by omega) (by omega);rw[k02 (p:=u<0) (by omega),k04 k,k04 this,k04 a];rfl
  ·subst k;simp
  ·have:=Int.mul_pos h k;rw[k02 (p:=u<0) (by omega),k02 (p:=v<0) (by omega),k02 (by omega)];rfl
def q0B(g o:Nat)(u:Int)(w:qa)(e:Ending)(w':qa):Prop:=
 e=.returned (.pointer (qf ⟨g,o,qd⟩))/\IntAt w' g o u/\Fm g o w w'
def Sz(n:Nat):Prop:=bl n<=8796093022208
theorem Sz.words(h:Sz n):words n<=274877906944:=by
 rcases k01 n with rfl|a
 ·simp [q0h]
 ·obtain⟨e,_⟩:=bl_words a;have:=q3A (bl_words a).2;unfold Sz at h;omega
theorem Rd.sz(h:Rd w A n c (toL N))(hs:Sz N):n<=274877906944:=by rw[<- h.words];exact hs.words
def sg(b:Bool)(N:Nat):Int:=if b then -(N:Int) else(N:Int)
theorem q0Z(b:Bool)(N:Nat):(sg b N).natAbs=N:=by cases b<;>simp [sg]
theorem q26(b:Bool)(N:Nat):qb (sg b N<0)=(b && qb (0<N)):=by
 cases b
 ·simp [sg]
 ·simp only[sg,k3e,k37];congr 1;apply propext;omega
theorem q6F(u:Int):sg (qb (u<0)) u.natAbs=u:=by unfold sg;by_cases h:u<0<;>simp [h]<;>omega
theorem qc4(u:Int):sg (!qb (u<0)) u.natAbs = -u:=by unfold sg;by_cases h:u<0<;>simp [h]<;>omega
abbrev Ob:=Nat × Nat × Nat
structure Fs(l:List Ob)(w w':qa):Prop where
 os:w'.os=w.os
 tape:w'.tape=w.tape
 output:w'.output=w.output
 size:w.heap.size<=w'.heap.size
 block:∀k,k<w.heap.size->(∀p∈l,p.1≠k)->w'.heap[k]?=w.heap[k]?
 cell:∀k j,k<w.heap.size->(∀p∈l,p.1=k->j<p.2.1\/p.2.1+p.2.2<=j)->w'.cell? ⟨k,j,qd⟩=w.cell? ⟨k,j,qd⟩
 frozen:∀k j,k<w.heap.size->w'.frozen? ⟨k,j,qd⟩=w.frozen? ⟨k,j,qd⟩
 head:∀k,k<w.heap.size->(∃x,w.cell? ⟨k,0,qd⟩=qf (.bool x))->∃x,w'.cell? ⟨k,0,qd⟩=qf (.bool x)
 obj:∀p∈l,p.1<w.heap.size->∃x,w.cell? ⟨p.1,0,qd⟩=qf (.bool x)
theorem Fs.of_below(l:List Ob)(h:qh w.heap.size w w')(ho:∀p∈l,p.1<w.heap.size->∃x,w.cell? ⟨p.1,0,qd⟩=qf (.bool x)):Fs l w w':=⟨h.os,h.tape,h.output,h.size,fun k hk _=>h.block k hk,fun k j hk _=>qc (a:=⟨k,j,qd⟩) (h.block k hk),fun k j hk=>q0S (p:=⟨k,j,qd⟩) (h.block k hk),fun k hk ⟨x,hx⟩=>⟨x,(qc (a:=⟨k,0,qd⟩) (h.block k hk)).trans hx⟩,ho⟩
theorem Fs.of_nil(h:qh w.heap.size w w'):Fs [] w w':=Fs.of_below [] h (fun _ hp=>by cases hp)
theorem Fm.fs(h:Fm g o w w')(hv:IntAt w g o v)(hu:IntAt w' g o u):Fs [(g,o,2)] w w':=⟨h.os,h.tape,h.output,h.size,fun k hk hn=>h.block k hk (fun e=>hn _ (k09.2 rfl) e.symm),fun k j hk hn=>by
   by_cases e:k=g
   ·subst e;have:j<o\/o+2<=j:=hn (k,o,2) (k09.2 rfl) rfl;exact h.cell j (by omega) (by omega)
   ·exact qc (a:=⟨k,j,qd⟩) (h.block k hk e),
  fun k j hk=>by
   by_cases e:k=g
   ·subst e;exact h.frozen j
   ·exact q0S (p:=⟨k,j,qd⟩) (h.block k hk e),
  fun k hk hx=>h.headAt hu.head hk hx,fun p hp _=>by rw[k09.1 hp];exact hv.head⟩
theorem q0B.fs(h:q0B g o u w e w')(hv:IntAt w g o v):Fs [(g,o,2)] w w':=h.2.2.fs hv h.2.1
theorem Fs.trans{l l':List Ob}{a b c:qa}(h:Fs l a b)(k:Fs l' b c):Fs (l++l') a c:=⟨k.os.trans h.os,k.tape.trans h.tape,k.output.trans h.output,k07 h.size k.size,fun i hi hn=>(k.block i (k03 hi h.size) (fun p hp=>hn p (List.mem_append_right _ hp))).trans (h.block i hi (fun p hp=>hn p (List.mem_append_left _ hp))),fun i j hi hn=>(k.cell i j (k03 hi h.size) (fun p hp=>hn p (List.mem_append_right _ hp))).trans (h.cell i j hi (fun p hp=>hn p (List.mem_append_left _ hp))),fun i j hi=>(k.frozen i j (k03 hi h.size)).trans (h.frozen i j hi),fun i hi hx=>k.head i (k03 hi h.size) (h.head i hi hx),fun p hp hlt=>by
   rcases k2P.1 hp with hp|hp
   ·exact h.obj p hp hlt
   ·by_cases e:∃q∈l,q.1=p.1
    ·obtain⟨q,hq,e⟩:=e;have:=h.obj q hq (by omega)
     rwa [e] at this
    ·obtain⟨x,hx⟩:=k.obj p hp (k03 hlt h.size);exact⟨x,(qc (a:=⟨p.1,0,qd⟩) (h.block p.1 hlt (fun q hq e'=>e ⟨q,hq,e'⟩))).symm.trans hx⟩⟩
theorem Fs.weak{l l':List Ob}(h:Fs l w w')(hsub:∀p∈l,p.1<w.heap.size->p∈l')(ho:∀p∈l',p.1<w.heap.size->∃x,w.cell? ⟨p.1,0,qd⟩=qf (.bool x)):Fs l' w w':=⟨h.os,h.tape,h.output,h.size,fun k hk hn=>h.block k hk (fun p hp e=>hn p (hsub p hp (by omega)) e),fun k j hk hn=>h.cell k j hk (fun p hp e=>hn p (hsub p hp (by omega)) e),h.frozen,h.head,ho⟩
theorem Fs.drop{l l':List Ob}(h:Fs l w w')(hsub:∀p∈l,p.1<w.heap.size->p∈l')(hl:∀p∈l',p∈l):Fs l' w w':=h.weak hsub (fun p hp=>h.obj p (hl p hp))
theorem Fs.drew{l:List Ob}(h:Fs l w w'):Fs l w w'.drew:=⟨h.os,h.tape,h.output,h.size,h.block,h.cell,h.frozen,h.head,h.obj⟩
theorem Fs.undrew{l:List Ob}(h:Fs l w.drew w'):Fs l w w':=⟨h.os,h.tape,h.output,h.size,h.block,h.cell,h.frozen,h.head,h.obj⟩
theorem Fs.below{l:List Ob}{a:qa}(h:Fs l w w')(hb:qh B a w)(hB:B<=w.heap.size)(hg:∀p∈l,B<=p.1):qh B a w':=⟨h.os.trans hb.os,h.tape.trans hb.tape,h.output.trans hb.output,k07 hb.size h.size,fun k hk=>(h.block k (by omega) (fun p hp e=>by have:=hg p hp;omega)).trans (hb.block k hk)⟩
theorem Rd.fs{l:List Ob}(h:Rd w A n c xs)(h0:∀a,A=qf a->a.off=0)(hf:Fs l w w'):Rd w' A n c xs:=⟨h.len,h.le,h.sm,h.lim,fun hn=>by obtain⟨b,off,e,hlt,hc⟩:=h.cell hn;refine⟨b,off,e,k03 hlt hf.size,fun j hj=>?_⟩;rw[<- hc j hj];refine qc (a:=⟨b,off+j,qd⟩) (hf.block b hlt fun p hp hpb=>?_);obtain⟨x,hx⟩:=hf.obj p hp (by omega);have:=h0 _ e;simp only at this;subst this;have h2:=hc 0 hn;rw[hpb] at hx;rw[hx] at h2;cases h2⟩
theorem Std.fs{l:List Ob}(h:Std w)(hf:Fs l w w'):Std w':=by
 have b:w'.heap[0]?=w.heap[0]?:=hf.block _ h.2 fun p hp e=>by obtain⟨x,hx⟩:=hf.obj p hp (by rw[e];exact h.2);have a:=h.1 0 (by decide);rw[e] at hx;rw[hx] at a;cases a
 exact⟨fun j hj=>by rw[<- h.1 j hj];simp only[World.cell?,b],k03 h.2 hf.size⟩
theorem IntAt.fs{l:List Ob}(h:IntAt w g o v)(hf:Fs l w w')(hne:∀p∈l,p.1=g->o+2<=p.2.1\/p.2.1+p.2.2<=o):IntAt w' g o v:=by
 obtain⟨A,n,c,b,d,f,a⟩:=h.ex;refine⟨k03 h.lt hf.size,hf.head g h.lt h.head,fun j=>(hf.frozen g j h.lt).trans (h.fz j),A,n,c,?_,?_,f.fs a hf,a⟩
 ·rw[hf.cell g o h.lt fun p hp e=>by have:=hne p hp e;omega];exact b
 ·rw[hf.cell g (o+1) h.lt fun p hp e=>by have:=hne p hp e;omega];exact d
theorem IntAt.fs1(h:IntAt w g o v)(hf:Fs [(g',o',k)] w w')(hne:g'≠g):IntAt w' g o v:=h.fs hf fun p hp e=>by rw[k09.1 hp] at e;exact absurd e hne
theorem q92(u:Int)(k:Nat):qb (u*2^k<0)=(qb (u<0) && qb (0<u.natAbs*2^k)):=by
 have a:(0:Int)<2^k:=Int.pow_pos (by omega);have b:0<2^k:=k0a k;rcases k11 u 0 with h|h|h
 ·have:=k2C h a;have c:0<u.natAbs*2^k:=k0N (by omega) b;rw[k04 this,k04 h,k04 c];rfl
 ·subst h;simp
 ·have:=Int.mul_pos h a;rw[k02 (by omega),k02 (p:=u<0) (by omega)];rfl
theorem two_words(h:n<18446744073709551616):nth (toL n) 0+4294967296*nth (toL n) 1=n:=by
 have d:words n<=2:=q15 (by omega);have e:val (toL n)=n:=q04 n;unfold words at d
 match hl:toL n with
 | []=>rw[hl] at e;simp [nth,val] at *;omega
 | [a]=>rw[hl] at e;simp [nth,val] at *;omega
 | [a,b]=>rw[hl] at e;simp [nth,val] at *;omega
 | a::b::c::l=>rw[hl] at d;simp at d
theorem q85{gr or:Nat}{a b:qa}(h:Fs ([]++([(gr,or,2),(g,o,2)]++([]++([(g,o,2)]++([]++[(gr,or,2)]))))) a b):Fs [(gr,or,2),(g,o,2)] a b:=h.drop (fun p hp _=>by simp only[k25,List.cons_append,k0R,k0X,k2c] at hp ⊢;rcases hp with h|h|h|h<;>simp [h])
  (fun p hp=>by simp only[k25,List.cons_append,k0R,k0X,k2c] at hp ⊢;rcases hp with h|h<;>simp [h])
def q2P(a b:Int):Int:=if a<b then -1 else if b<a then 1 else 0
theorem q4r{a b:Int}(h:a<b):q2P a b = -1:=k0p h
theorem q4s{a b:Int}(h:b<a):q2P a b=1:=by unfold q2P;rw[k0r (by omega),k0p h]
theorem q3x(a:Int):q2P a a=0:=by unfold q2P;rw[k0r (by omega),k0r (by omega)]
theorem q5G{a b:Int}(h:¬a<0)(k:¬b<0):q2P a b=q14 a.natAbs b.natAbs:=by
 rcases k11 a b with c|c|c
 ·rw[q4r c,q1G (by omega)]
 ·rw[c,q3x,q4u rfl]
 ·rw[q4s c,q2p (by omega)]
theorem qbi{a b:Int}(h:a<0)(k:b<0):q2P a b = -q14 a.natAbs b.natAbs:=by
 rcases k11 a b with c|c|c
 ·rw[q4r c,q2p (by omega)]
 ·rw[c,q3x,q4u rfl];rfl
 ·rw[q4s c,q1G (by omega)];rfl
theorem q8x(x:Nat)(h:x<4294967296):bits .and .u32 (x:Int) 1=((x%2:Nat):Int):=by have:=u32_and_nat x 1 h (by omega);rw[Nat.and_one_is_mod] at this;exact this
theorem q2V(n:Nat):nth (toL n) 0%2=n%2:=by
 have b:val (toL n)=n:=q04 n
 match hl:toL n with
 | []=>rw[hl] at b;simp [nth,val] at *;omega
 | a::l=>rw[hl] at b;simp [nth,val] at *;omega
def q0W(v:Int)(w:qa)(e:Ending)(w':qa):Prop:=∃g,e=.returned (.pointer (qf ⟨g,0,qd⟩))/\w.heap.size<=g/\IntAt w' g 0 v/\qh w.heap.size w w'
theorem IntAt.zero(w:qa)(t:TypeId):IntAt (w.alloc (.cells #[.bool qn,.slice qd 0 0] t)) w.heap.size 0 0:=⟨by simp,⟨qn,by simp only[World.cell?];rw[qe];rfl⟩,fun j=>by simp only[World.frozen?];rw[qe];simp,qd,0,0,by simp only[World.cell?];rw[qe];rfl,by simp only[World.cell?];rw[qe];rfl,by have:toL (0:Int).natAbs=[]:=rfl;rw[this];exact Rd.nil _,fun a e=>by cases e⟩
theorem q4S{a b r:Int}(hb:b≠0)(h:b*q+r=a)(h0:0<=r)(h1:r<b.natAbs):a/b=q/\a%b=r:=by
 have d:∀{b q:Int},0<b->b*q+r=a->r<b->a/b=q/\a%b=r:=fun {b q} c h h1 =>(Int.ediv_emod_unique c).2 ⟨by rw[Int.add_comm];exact h,h0,h1⟩
 rcases Int.lt_or_gt_of_ne hb with g|c
 ·obtain⟨f,e⟩:=d (b:=-b) (q:=-q) (by omega) (by rw[Int.neg_mul_neg];exact h) (by omega);rw[Int.ediv_neg] at f;rw[Int.emod_neg] at e;exact⟨by omega,e⟩
 ·exact d c h (by omega)
theorem qcH(h0:u2≠0)(hr:¬sg (qb (u1<0)) (u1.natAbs%u2.natAbs)<0):sg (qb (u1<0) != qb (u2<0)) (u1.natAbs/u2.natAbs)=u1/u2/\sg (qb (u1<0)) (u1.natAbs%u2.natAbs)=u1%u2:=by
 have f:=k0F u1.natAbs u2.natAbs;have g:=k0i u1.natAbs (y:=u2.natAbs) (by omega);have e:((u2.natAbs:Int)*(u1.natAbs/u2.natAbs:Nat)+(u1.natAbs%u2.natAbs:Nat))=(u1.natAbs:Int):=by rw[<- k0f,<- k1o,f]
 generalize u1.natAbs/u2.natAbs=Q at *
 generalize u1.natAbs%u2.natAbs=R at *
 have:=q4S (a:=u1) (b:=u2) (q:=sg (qb (u1<0) != qb (u2<0)) Q) (r:=sg (qb (u1<0)) R) h0 ?_ (by omega) (by by_cases h:u1<0<;>simp [sg,h] at*<;> omega)
 ·exact⟨this.1.symm,this.2.symm⟩
 by_cases h:u1<0<;>by_cases k:u2<0
 ·have c:(u1.natAbs:Int) = -u1:=by omega
  have d:(u2.natAbs:Int) = -u2:=by omega
  rw[c,d] at e;simp [sg,h,k] at *
  try simp only[k1e,k3b] at *
  omega
 ·have c:(u1.natAbs:Int) = -u1:=by omega
  have d:(u2.natAbs:Int)=u2:=by omega
  rw[c,d] at e;simp [sg,h,k] at *
  try simp only[k1e,k3b] at *
  omega
 ·have c:(u1.natAbs:Int)=u1:=by omega
  have d:(u2.natAbs:Int) = -u2:=by omega
  rw[c,d] at e;simp [sg,h,k] at *
  try simp only[k1e,k3b] at *
  omega
 ·have c:(u1.natAbs:Int)=u1:=by omega
  have d:(u2.natAbs:Int)=u2:=by omega
  rw[c,d] at e;simp [sg,h,k] at *
  try simp only[k1e,k3b] at *
  omega
theorem qbe(h0:u2≠0)(hr:sg (qb (u1<0)) (u1.natAbs%u2.natAbs)<0):sg (qb (u1<0) != qb (u2<0)) (u1.natAbs/u2.natAbs)+(if u2<0 then 1 else -1)=u1/u2/\((u2.natAbs-u1.natAbs%u2.natAbs:Nat):Int)=u1%u2:=by
 have i:=k0F u1.natAbs u2.natAbs;have j:=k0i u1.natAbs (y:=u2.natAbs) (by omega);have e:((u2.natAbs:Int)*(u1.natAbs/u2.natAbs:Nat)+(u1.natAbs%u2.natAbs:Nat))=(u1.natAbs:Int):=by rw[<- k0f,<- k1o,i]
 generalize u1.natAbs/u2.natAbs=Q at *
 generalize u1.natAbs%u2.natAbs=R at *
 have f:u1<0:=by
  by_cases h:u1<0
  ·exact h
  ·simp [sg,h] at hr;omega
 have l:0<R:=by
  rcases k01 R with h|h
  ·subst h;simp [sg] at hr
  ·exact h
 have:=q4S (a:=u1) (b:=u2) (q:=sg (qb (u1<0) != qb (u2<0)) Q+(if u2<0 then 1 else -1)) (r:=((u2.natAbs-R:Nat):Int)) h0 ?_ (by omega) (by omega)
 ·exact⟨this.1.symm,this.2.symm⟩
 have g:(u1.natAbs:Int) = -u1:=by omega
 by_cases k:u2<0
 ·have c:(u2.natAbs:Int) = -u2:=by omega
  rw[g,c] at e;have d:((u2.natAbs-R:Nat):Int) = -u2-R:=by omega
  rw[d];simp [sg,f,k] at *
  try simp only[k1e,k3b,k2Y] at *
  omega
 ·have c:(u2.natAbs:Int)=u2:=by omega
  rw[g,c] at e;have d:((u2.natAbs-R:Nat):Int)=u2-R:=by omega
  rw[d];simp [sg,f,k] at *
  try simp only[k1e,k3b,k2Y] at *
  omega
theorem Sz.mono(h:Sz b)(hab:a<=b):Sz a:=k07 (q1k hab) h
theorem Sz.small(h:a<18446744073709551616):Sz a:=k07 (q0A (k:=64) h) (by omega)
def q75(g o:Nat)(u:Int)(w:qa)(e:Ending)(w':qa):Prop:=e=.returned (.pointer (qf ⟨g,o,qd⟩))/\IntAt w' g o u/\Fs [(g,o,2)] w w'
theorem q0B.f(h:q0B g o u w e w')(hv:IntAt w g o v):q75 g o u w e w':=⟨h.1,h.2.1,h.fs hv⟩
theorem q75.below{a:qa}(h:q75 g o u w e w')(hb:qh B a w)(hB:B<=w.heap.size)(hg:B<=g):qh B a w':=h.2.2.below hb hB (fun p hp=>by rw[k09.1 hp];exact hg)
theorem q75.after{a:qa}(h:q75 g o u w e w')(hb:qh a.heap.size a w):Fs [(g,o,2)] a w':=((Fs.of_nil hb).trans h.2.2).drop (fun p hp _=>hp) (fun p hp=>hp)
structure ExpInv(w:qa)(gb g1 g2:Nat)(A:Option ql)(n x y q:Nat)(wr:qa):Prop where
 by_:IntAt wr gb 0 0
 o:IntAt wr g1 0 ((x^q:Nat):Int)
 base:IntAt wr g2 0 (x:Int)
 words:Rd wr A n n (toL y)
 off:∀a,A=qf a->a.off=0
 bel:qh w.heap.size w wr
theorem ExpInv.step{wr:qa}{gb g1 g2 x q q':Nat}(h:ExpInv w gb g1 g2 A n x y q wr)(hP:q0B g1 0 u wr e w')(hu:u=((x^q':Nat):Int))(h1:w.heap.size<=g1)(hb:g1≠gb)(h2:g1≠g2):ExpInv w gb g1 g2 A n x y q' w':=by have a:=hP.f h.o;exact⟨h.by_.fs1 a.2.2 hb,by rw[<- hu];exact a.2.1,h.base.fs1 a.2.2 h2,h.words.fs h.off a.2.2,h.off,a.below h.bel h.bel.size h1⟩
theorem IntAt.nil(h:IntAt w g o 0):∃A c,w.cell? ⟨g,o+1,qd⟩=qf (.slice A 0 c):=by obtain⟨A,n,c,d,a,b,e⟩:=h.ex;have:n=0:=b.len.symm;subst this;exact⟨A,c,a⟩
theorem q41(x s:Nat)(hx:x<4294967296):(bits .and .u32 ((x:Int)/2^s) 1==1)=qb (x/2^s%2=1):=by rw[q1m,q8x _ (k0I (k0q _ _) hx)];rcases k0U (x/2^s) with h|h<;>rw[h]<;>rfl
theorem q4U(y i:Nat):y/2^i=2*(y/2^(i+1))+y/2^i%2:=by rw[k0d,<- k0h];omega
theorem q4l(y i:Nat):nth (toL y) (i/32)/2^(i%32)%2=y/2^i%2:=by
 rw[q19,q1u,<- k1Q];have e:(2:Nat)^(i%32)*2=2^(i%32+1):=(k0d ..).symm;have a:(4294967296:Nat)=2^(i%32+1)*2^(31-i%32):=by rw[<- k0e,show i%32+1+(31-i%32)=32 by omega]
 rw[e,a,Nat.mod_mul_right_mod,<- e,k1Q,k0h,<- k0e,show 32*(i/32)+i%32=i by omega]
def lp(p:Int)(d:Nat):Int:=sg (qb (p<0)) (p.natAbs/Nat.gcd p.natAbs d)
def ld(p:Int)(d:Nat):Nat:=d/Nat.gcd p.natAbs d
theorem q3q(p:Int)(d:Nat):(lp p d).natAbs=p.natAbs/Nat.gcd p.natAbs d:=q0Z _ _
theorem q0F(hd:0<d):0<Nat.gcd n d:=qk _ hd
theorem q1q(hd:0<d):0<ld p d:=k2d (k2l hd (k17 _ _)) (q0F hd)
theorem q2M(p:Int)(d:Nat):(lp p d).natAbs<=p.natAbs:=by rw[q3q];exact k0q _ _
theorem q33(p:Int)(d:Nat):ld p d<=d:=k0q _ _
theorem q2j(hd:0<d):Nat.gcd (lp p d).natAbs (ld p d)=1:=by rw[q3q];exact qg hd
theorem q6a(p:Int)(d:Nat):lp p d*(Nat.gcd p.natAbs d:Nat)=p:=by
 have h:=qo (k1H p.natAbs d);have e:((p.natAbs/Nat.gcd p.natAbs d:Nat):Int)*(Nat.gcd p.natAbs d:Nat)=(p.natAbs:Int):=by rw[<- k0f,h]
 unfold lp sg;by_cases k:p<0
 ·rw[k04 k,k0p rfl,k1e,e];omega
 ·rw[k02 k,k0r (by decide),e];omega
theorem qcu(p:Int)(d:Nat):ld p d*Nat.gcd p.natAbs d=d:=qo (k17 _ _)
theorem q0N(p:Int)(d:Nat):lp p d*d=p*ld p d:=by
 have a:=q6a p d;have b:((ld p d:Nat):Int)*(Nat.gcd p.natAbs d:Nat)=d:=by rw[<- k0f,qcu]
 generalize ((Nat.gcd p.natAbs d:Nat):Int)=G at *
 calc lp p d*d=lp p d*(ld p d*G):=by rw[b]
  _=lp p d*G*ld p d:=by grind
  _=p*ld p d:=by rw[a]
theorem q5u(d:Nat):lp 0 d=0:=by simp [lp,sg]
theorem qb2(hd:0<d):ld 0 d=1:=by simp [ld,Nat.div_self hd]
theorem q2N:lp p d=0↔p=0:=by
 constructor
 ·intro h;have:=q6a p d;rw[h,Int.zero_mul] at this;exact this.symm
 ·rintro rfl;exact q5u d
theorem q2D(hd:0<d):lp p d<0↔p<0:=by
 have h:=q6a p d;have b:(0:Int)<(Nat.gcd p.natAbs d:Nat):=by have:=q0F (n:=p.natAbs) hd;omega
 generalize ((Nat.gcd p.natAbs d:Nat):Int)=G at *
 constructor
 ·intro k;rw[<- h];exact k2C k b
 ·intro k;rcases k23 (lp p d) 0 with a|a
  ·exact a
  ·have:=k18 a (Int.le_of_lt b);omega
theorem qaW(hd:0<d):(lp p d).sign=p.sign:=by
 rcases k11 p 0 with h|h|h
 ·rw[k1a h,k1a ((q2D hd).2 h)]
 ·subst h;rw[q5u]
 ·rw[k0M h,k0M];have a:=(q2D (p:=p) hd);have b:=q2N (p:=p) (d:=d);omega
theorem q39(hd:0<d)(hy:0<y)(hc:Nat.gcd x.natAbs y=1)(h:x*d=p*y):lp p d=x/\ld p d=y:=by
 have j:=q1q (p:=p) hd;have c:=q2j (p:=p) hd;have f:=q0N p d;have e:lp p d*y=x*ld p d:=by
  have:(d:Int)*(lp p d*y)=d*(x*ld p d):=by
   calc (d:Int)*(lp p d*y)=lp p d*d*y:=by grind
    _=p*ld p d*y:=by rw[f]
    _=p*y*ld p d:=by grind
    _=x*d*ld p d:=by rw[h]
    _=_:=by grind
  exact Int.eq_of_mul_eq_mul_left (by omega) this
 have a:(lp p d).natAbs*y=x.natAbs*ld p d:=by
  have:=k0z Int.natAbs e
  rwa [k1c,k1c,k08,k08] at this
 have g:y ∣ ld p d:=by have:y ∣ x.natAbs*ld p d:=⟨(lp p d).natAbs,by rw[<- a,k0g]⟩;exact(qp hc).dvd_of_dvd_mul_left this
 have i:ld p d ∣ y:=by have:ld p d ∣ (lp p d).natAbs*y:=⟨x.natAbs,by rw[a,k0g]⟩;exact(qp c).dvd_of_dvd_mul_left this
 have b:=Nat.dvd_antisymm g i;refine⟨?_,b.symm⟩;rw[<- b] at e;exact Int.eq_of_mul_eq_mul_right (by omega) e
theorem q7U{e:Nat}(hd:0<d)(he:0<e)(h:p*e=q*d):lp p d=lp q e/\ld p d=ld q e:=by
 have:=q39 (x:=lp q e) (y:=ld q e) (p:=p) (d:=d) hd (q1q he) (q2j he) ?_
 ·exact⟨this.1,this.2⟩
 ·have k:=q0N q e;have:(e:Int)*(lp q e*d)=e*(p*ld q e):=by
   calc (e:Int)*(lp q e*d)=lp q e*e*d:=by grind
    _=q*ld q e*d:=by rw[k]
    _=q*d*ld q e:=by grind
    _=p*e*ld q e:=by rw[h]
    _=_:=by grind
  exact Int.eq_of_mul_eq_mul_left (by omega) this
theorem q3a(hd:0<d)(hc:Nat.gcd p.natAbs d=1):lp p d=p/\ld p d=d:=q39 hd hd hc rfl
theorem qc5{b:Bool}{D:Nat}(hD:0<D):Nat.gcd (sg b (N/Nat.gcd N D)).natAbs (D/Nat.gcd N D)=1/\sg b (N/Nat.gcd N D)*(D:Int)=sg b N*(D/Nat.gcd N D:Nat):=by
 refine⟨by rw[q0Z];exact qg hD,?_⟩;have a:=q0F (n:=N) hD;have d:=k1H N D;have f:=k17 N D;obtain⟨x,hx⟩:=d;obtain⟨y,g⟩:=f;generalize Nat.gcd N D=G at *
 have e:N/G*D=N*(D/G):=by rw[hx,g,k14 _ a,k14 _ a];grind
 have c:((N/G:Nat):Int)*D=(N:Int)*(D/G:Nat):=by rw[<- k0f,e,k0f]
 cases b
 ·exact c
 ·show -((N/G:Nat):Int)*D = -(N:Int)*(D/G:Nat);rw[k1e,c,k1e]
theorem qaQ(hb:0<b)(hd:0<d)(h1:Nat.gcd a b=1)(h2:Nat.gcd c d=1)(ha:0<a)(hc:0<c):Nat.gcd (a/Nat.gcd a d*(c/Nat.gcd c b)) (b/Nat.gcd c b*(d/Nat.gcd a d))=1/\(a/Nat.gcd a d*(c/Nat.gcd c b))*(b*d)=a*c*(b/Nat.gcd c b*(d/Nat.gcd a d)):=by
 have e:=k1H a d;have f:=k17 a d;have i:=k1H c b;have j:=k17 c b;have m:Nat.Coprime (a/Nat.gcd a d) (d/Nat.gcd a d):=k26 (q0F hd);have o:Nat.Coprime (c/Nat.gcd c b) (b/Nat.gcd c b):=k26 (q0F hb);have p:Nat.Coprime (a/Nat.gcd a d) (b/Nat.gcd c b):=(k22 (k2r e) h1).coprime_dvd_right (k2r j);have q:Nat.Coprime (c/Nat.gcd c b) (d/Nat.gcd a d):=(k22 (k2r i) h2).coprime_dvd_right (k2r f);refine⟨qi (k2v p m) (k2v o q),?_⟩;obtain⟨x,hx⟩:=e;obtain⟨y,r⟩:=f;obtain⟨u,s⟩:=i;obtain⟨v,t⟩:=j;have k:=q0F (n:=a) hd;have l:=q0F (n:=c) hb;generalize Nat.gcd a d=g at *
 generalize Nat.gcd c b=h at *
 subst hx s;rw[r,t,k14 _ k,k14 _ k,k14 _ l,k14 _ l]
 grind
theorem qbs{n:Int}(hP:0<P)(hQ:0<Q)(h1:Nat.gcd m.natAbs P=1)(h2:Nat.gcd n.natAbs Q=1):let g:=Nat.gcd P Q
  let s:=m*(Q/g:Nat)+n*(P/g:Nat)
  let h:=Nat.gcd s.natAbs g
  Nat.gcd (s.natAbs/h) (P/g*(Q/h))=1/\sg (qb (s<0)) (s.natAbs/h)*(P*Q:Nat)=(m*Q+n*P)*(P/g*(Q/h):Nat):=by
 intro g s h;have b:0<g:=q0F hQ;have p:g ∣ P:=k1H P Q;have q:g ∣ Q:=k17 P Q;have d:Nat.Coprime (P/g) (Q/g):=k26 b;obtain⟨x,hx⟩:=p;obtain⟨y,a⟩:=q;have e:P/g=x:=by rw[hx,k14 _ b]
 have o:Q/g=y:=by rw[a,k14 _ b]
 have f:s=m*y+n*x:=by show m*(Q/g:Nat)+n*(P/g:Nat)=_;rw[e,o]
 rw[e,o] at d;have i:0<h:=qk _ b;have r:h ∣ s.natAbs:=k1H _ _;obtain⟨z,c⟩:h ∣ g:=k17 _ _;have c1:Nat.Coprime s.natAbs x:=by
  have j:Nat.Coprime m.natAbs x:=qj ⟨g,by rw[hx,k0g]⟩ h1;have l:Nat.Coprime (m*y).natAbs x:=by rw[k1c,k08];exact qi j d.symm
  have k:Int.gcd s x=Int.gcd (m*y) x:=by rw[f,Int.gcd_add_mul_right_left]
  exact k.trans l
 have c2:Nat.Coprime s.natAbs y:=by
  have j:Nat.Coprime n.natAbs y:=qj ⟨g,by rw[a,k0g]⟩ h2;have l:Nat.Coprime (n*x).natAbs y:=by rw[k1c,k08];exact qi j d
  have k:Int.gcd s y=Int.gcd (n*x) y:=by rw[f,Int.add_comm,Int.gcd_add_mul_right_left]
  exact k.trans l
 have t:Q/h=y*z:=by rw[a,c,k0j,k14 _ i,k0g]
 have c3:Nat.Coprime (s.natAbs/h) z:=by
  have:Nat.Coprime (s.natAbs/h) (g/h):=k26 i
  rwa [c,k14 _ i] at this
 have dv:=k2r r;rw[e,t];refine⟨k2v (k22 dv c1) (k2v (k22 dv c2) c3),?_⟩;have u:sg (qb (s<0)) (s.natAbs/h)*(h:Nat)=s:=by have:=q6a s g;exact this
 generalize sg (qb (s<0)) (s.natAbs/h)=S at *
 have v:(m*Q+n*P)=g*s:=by
  rw[f];conv=>lhs;rw[hx,a]
  simp only[k0f];grind
 rw[v,<- u]
 conv=>lhs;rw[hx,a]
 rw[show(g:Int)=((h*z:Nat):Int) by rw[<- c]];have w:((g*x*(g*y):Nat):Int)=((h*z*x*(h*z*y):Nat):Int):=by rw[<- c]
 rw[w];simp only[k0f]
 grind
theorem q9O{n s:Int}(hP:0<P)(hQ:0<Q)(h1:Nat.gcd m.natAbs P=1)(h2:Nat.gcd n.natAbs Q=1)(hs:s=m*(Q/Nat.gcd P Q:Nat)+n*(P/Nat.gcd P Q:Nat)):Nat.gcd (s.natAbs/Nat.gcd s.natAbs (Nat.gcd P Q)) (P/Nat.gcd P Q*(Q/Nat.gcd s.natAbs (Nat.gcd P Q)))=1 /\sg (qb (s<0)) (s.natAbs/Nat.gcd s.natAbs (Nat.gcd P Q))*(P*Q:Nat)=(m*Q+n*P)*(P/Nat.gcd P Q*(Q/Nat.gcd s.natAbs (Nat.gcd P Q)):Nat):=by subst hs;exact qbs hP hQ h1 h2
def q1I(w:qa)(A:Option ql)(n c d:Nat):Prop:=(n=0/\d=1\/0<n/\Rd w A n c (toL d))/\∀a,A=qf a->a.off=0
structure RatSh(w:qa)(g:Nat):Prop where
 int:∃v,IntAt w g 0 v
 c2:∃x,w.cell? ⟨g,2,qd⟩=qf x
structure RatAt(w:qa)(g:Nat)(p:Int)(d:Nat):Prop where
 num:IntAt w g 0 (lp p d)
 den:∃A n c,w.cell? ⟨g,2,qd⟩=qf (.slice A n c)/\q1I w A n c (ld p d)
 pos:0<d
theorem RatAt.lt(h:RatAt w g p d):g<w.heap.size:=h.num.lt
theorem RatAt.sh(h:RatAt w g p d):RatSh w g:=⟨⟨_,h.num⟩,by obtain⟨A,n,c,e,-⟩:=h.den;exact⟨_,e⟩⟩
theorem RatAt.cross{e:Nat}(h:RatAt w g p d)(he:0<e)(hx:p*e=q*d):RatAt w g q e:=by obtain⟨a,b⟩:=q7U h.pos he hx;exact⟨by rw[<- a];exact h.num,by rw[<- b];exact h.den,he⟩
theorem q1I.below(h:q1I w A n c d)(hb:qh B w w')(hB:B=w.heap.size):q1I w' A n c d:=⟨h.1.imp id fun k=>⟨k.1,k.2.below hb hB⟩,h.2⟩
theorem q1I.fs{l:List Ob}(h:q1I w A n c d)(hf:Fs l w w'):q1I w' A n c d:=⟨h.1.imp id fun k=>⟨k.1,k.2.fs h.2 hf⟩,h.2⟩
theorem q1I.like(h:q1I w A n c d)(e:w'.heap=w.heap):q1I w' A n c d:=⟨h.1.imp id fun k=>⟨k.1,k.2.like e⟩,h.2⟩
theorem RatSh.below(h:RatSh w g)(hb:qh w.heap.size w w'):RatSh w' g:=by obtain⟨⟨v,a⟩,x,hx⟩:=h;exact⟨⟨v,a.below hb⟩,x,(hb.cell (p:=⟨g,2,qd⟩) a.lt).trans hx⟩
theorem RatAt.below(h:RatAt w g p d)(hb:qh w.heap.size w w'):RatAt w' g p d:=by obtain⟨A,n,c,e,a⟩:=h.den;exact⟨h.num.below hb,⟨A,n,c,(hb.cell (p:=⟨g,2,qd⟩) h.lt).trans e,a.below hb rfl⟩,h.pos⟩
theorem RatAt.like(h:RatAt w g p d)(e:w'.heap=w.heap):RatAt w' g p d:=by obtain⟨A,n,c,a,b⟩:=h.den;exact⟨h.num.like e,⟨A,n,c,by rw[<- a];simp only[World.cell?,e],b.like e⟩,h.pos⟩
theorem RatAt.drew(h:RatAt w g p d):RatAt w.drew g p d:=h.like rfl
theorem RatSh.like(h:RatSh w g)(e:w'.heap=w.heap):RatSh w' g:=by obtain⟨⟨v,a⟩,x,hx⟩:=h;exact⟨⟨v,a.like e⟩,x,by rw[<- hx];simp only[World.cell?,e]⟩
theorem RatAt.fs{l:List Ob}(h:RatAt w g p d)(hf:Fs l w w')(hne:∀q∈l,q.1≠g):RatAt w' g p d:=by obtain⟨A,n,c,e,a⟩:=h.den;exact⟨h.num.fs hf (fun q hq k=>absurd k (hne q hq)),⟨A,n,c,(hf.cell g 2 h.lt fun q hq k=>absurd k (hne q hq)).trans e,a.fs hf⟩,h.pos⟩
theorem RatAt.fs1(h:RatAt w g p d)(hf:Fs [(g',o',k)] w w')(hne:g'≠g):RatAt w' g p d:=h.fs hf fun q hq=>by rw[k09.1 hq];exact hne
theorem RatSh.fs{l:List Ob}(h:RatSh w g)(hf:Fs l w w')(hne:∀q∈l,q.1≠g):RatSh w' g:=by obtain⟨⟨v,a⟩,x,hx⟩:=h;exact⟨⟨v,a.fs hf (fun q hq k=>absurd k (hne q hq))⟩,x,(hf.cell g 2 a.lt fun q hq k=>absurd k (hne q hq)).trans hx⟩
theorem RatSh.num(h:RatSh w g)(hP:q75 g 0 u w e w'):IntAt w' g 0 u/\∃x,w'.cell? ⟨g,2,qd⟩=qf x:=by obtain⟨⟨v,a⟩,x,hx⟩:=h;exact⟨hP.2.1,x,(hP.2.2.cell g 2 a.lt fun p hp _=>by rw[k09.1 hp];right;exact lr).trans hx⟩
theorem Fs.set2(h:IntAt w g 0 v)(s:qr):Fs [(g,2,1)] w (w.setCell ⟨g,2,qd⟩ s):=by
 obtain⟨x,hx⟩:=h.head;refine⟨rfl,rfl,rfl,by simp [World.setCell],fun k _ hn=>Below.heap_setCell w ⟨g,2,qd⟩ s k (fun e=>hn _ (k09.2 rfl) e.symm),fun k j _ hn=>q0u (fun e=>?_),fun k j _=>qm _ _ _ _,fun k _ hk=>?_,fun p hp _=>?_⟩
 ·injection e with e1 e2;have:=hn (g,2,1) (k09.2 rfl) e1;simp only at this;omega
 ·obtain⟨y,a⟩:=hk;exact⟨y,(q0u (fun e=>by injection e with _ e;omega)).trans a⟩
 ·rw[k09.1 hp];exact⟨x,hx⟩
theorem IntAt.set2(h:IntAt w g 0 v)(s:qr):IntAt (w.setCell ⟨g,2,qd⟩ s) g 0 v:=h.fs (Fs.set2 h s) fun p hp _=>by rw[k09.1 hp];left;exact lr
theorem RatAt.made(h:IntAt w g 0 x)(hc:∃z,w.cell? ⟨g,2,qd⟩=qf z)(hd:q1I w A n c y)(hp:0<d)(hy:0<y)(h1:Nat.gcd x.natAbs y=1)(h2:x*d=p*y):RatAt (w.setCell ⟨g,2,qd⟩ (.slice A n c)) g p d:=by obtain⟨a,b⟩:=q39 hp hy h1 h2;obtain⟨z,e⟩:=hc;exact⟨by rw[a];exact h.set2 _,⟨A,n,c,q0v e,by rw[b];exact hd.fs (Fs.set2 h _)⟩,hp⟩
theorem fs3(h:Fs [(g,0,2),(g,2,1)] w w'):Fs [(g,0,3)] w w':=⟨h.os,h.tape,h.output,h.size,fun k hk hn=>h.block k hk fun p hp=>by
   simp only[k0R,k0X,k2c] at hp;rcases hp with rfl|rfl<;>exact hn (g,0,3) (k09.2 rfl),
  fun k j hk hn=>h.cell k j hk fun p hp e=>by have:=hn (g,0,3) (k09.2 rfl);simp only[k0R,k0X,k2c] at hp;rcases hp with rfl|rfl<;>(have:=this e;simp only at this ⊢;omega),
  h.frozen,h.head,fun p hp hlt=>by rw[k09.1 hp] at hlt ⊢;exact h.obj (g,0,2) (by simp) hlt⟩
theorem qb7(h:Fs [(g,0,2)] w w'):Fs [(g,0,3)] w w':=⟨h.os,h.tape,h.output,h.size,fun k hk hn=>h.block k hk fun p hp=>by rw[k09.1 hp];exact hn (g,0,3) (k09.2 rfl),fun k j hk hn=>h.cell k j hk fun p hp e=>by have:=hn (g,0,3) (k09.2 rfl);rw[k09.1 hp] at e ⊢;have:=this e;simp only at this ⊢;omega,h.frozen,h.head,fun p hp hlt=>by rw[k09.1 hp] at hlt ⊢;exact h.obj (g,0,2) (by simp) hlt⟩
def q2I(g:Nat)(p:Int)(d:Nat)(w:qa)(e:Ending)(w':qa):Prop:=e=.returned (.pointer (qf ⟨g,0,qd⟩))/\RatAt w' g p d/\Fs [(g,0,3)] w w'
theorem q2I.below{a:qa}(h:q2I g p d w e w')(hb:qh B a w)(hB:B<=w.heap.size)(hg:B<=g):qh B a w':=h.2.2.below hb hB (fun p hp=>by rw[k09.1 hp];exact hg)
theorem Fs.after{l:List Ob}{a:qa}(h:Fs l w w')(hb:qh a.heap.size a w):Fs l a w':=((Fs.of_nil hb).trans h).drop (fun p hp _=>hp) (fun p hp=>hp)
theorem q2I.cross{e':Nat}(h:q2I g p d w e w')(he:0<e')(hx:p*e'=q*d):q2I g q e' w e w':=⟨h.1,h.2.1.cross he hx,h.2.2⟩
def q2Q(p:Int)(d:Nat)(w:qa)(e:Ending)(w':qa):Prop:=∃g,e=.returned (.pointer (qf ⟨g,0,qd⟩))/\w.heap.size<=g/\RatAt w' g p d/\qh w.heap.size w w'
theorem RatAt.zero(w:qa)(t:TypeId):RatAt (w.alloc (.cells #[.bool qn,.slice qd 0 0,.slice qd 0 0] t)) w.heap.size 0 1:=by have hi:IntAt (w.alloc (.cells #[.bool qn,.slice qd 0 0,.slice qd 0 0] t)) w.heap.size 0 0:=⟨by simp,⟨qn,by simp only[World.cell?];rw[qe];rfl⟩,fun j=>by simp only[World.frozen?];rw[qe];simp,qd,0,0,by simp only[World.cell?];rw[qe];rfl,by simp only[World.cell?];rw[qe];rfl,by have:toL (0:Int).natAbs=[]:=rfl;rw[this];exact Rd.nil _,fun a e=>by cases e⟩;exact⟨by rw[q5u];exact hi,⟨qd,0,0,by simp only[World.cell?];rw[qe];rfl,.inl ⟨rfl,qb2 (by omega)⟩,fun a e=>by cases e⟩,by omega⟩
theorem Rd.den(h:Rd w A n c (toL d))(hd:0<d)(hz:∀a,A=qf a->a.off=0):q1I w A n c d:=by
 refine⟨.inr ⟨?_,h⟩,hz⟩;rcases k01 n with rfl|b
 ·have:=q06.1 h.words;omega
 ·exact b
theorem q1I.nil(w:qa):q1I w qd 0 0 1:=⟨.inl ⟨rfl,rfl⟩,fun a e=>by cases e⟩
theorem qaV(h:u.natAbs=p.natAbs):(lp u d).natAbs=(lp p d).natAbs/\ld u d=ld p d:=by rw[q3q,q3q,h];exact⟨rfl,by unfold ld;rw[h]⟩
theorem RatAt.resign(h:RatAt w g p d)(u:Int)(hu:u.natAbs=p.natAbs):RatAt (w.setCell ⟨g,0,qd⟩ (.bool (qb (u<0)))) g u d/\Fs [(g,0,3)] w (w.setCell ⟨g,0,qd⟩ (.bool (qb (u<0)))):=by
 obtain⟨A,n,c,b,m,f,i⟩:=h.num.ex;have a:Fm g 0 w (w.setCell ⟨g,0,qd⟩ (.bool (qb (u<0)))):=Fm.set0 _ _ (.inl rfl);obtain⟨o,q⟩:=qaV (d:=d) hu;have k:IntAt (w.setCell ⟨g,0,qd⟩ (.bool (qb (u<0)))) g 0 (lp u d):=by
  refine⟨k03 h.num.lt a.size,⟨_,q0v b⟩,fun j=>by rw[a.frozen];exact h.num.fz j,A,n,c,?_,?_,?_,i⟩
  ·rw[show qb (lp u d<0)=qb (u<0) by rw[k1y];exact q2D h.pos];exact q0v b
  ·exact(q0u (fun e=>by injection e with _ e;omega)).trans m
  ·rw[o];exact f.fm a (f.apart i h.num.head)
 have l:=a.fs h.num k;obtain⟨r,s,t,e,v⟩:=h.den;refine⟨⟨k,⟨r,s,t,?_,by rw[q];exact v.fs l⟩,h.pos⟩,qb7 l⟩;exact(q0u (fun e=>by injection e with _ e;omega)).trans e
theorem q1I.rd(h:q1I w A n c d):∃xs,Rd w A n c xs/\(n=0/\d=1/\xs=[]\/0<n/\xs=toL d):=by
 rcases h.1 with ⟨rfl,rfl⟩|⟨a,b⟩
 ·exact⟨[],⟨rfl,k0x _,k0x _,q0L,fun h=>absurd h (by omega)⟩,.inl ⟨rfl,rfl,rfl⟩⟩
 ·exact⟨_,b,.inr ⟨a,rfl⟩⟩
theorem q1I.of_copy(h:Rd w A n c xs)(hd:n=0/\d=1/\xs=[]\/0<n/\xs=toL d)(hz:∀a,A=qf a->a.off=0):q1I w A n c d:=by
 refine⟨?_,hz⟩;rcases hd with ⟨b,e,-⟩|⟨f,rfl⟩
 ·exact .inl ⟨b,e⟩
 ·exact .inr ⟨f,h⟩
theorem q4p(hN:0<N)(hd:0<d):Nat.gcd (ld N d) (lp N d).natAbs=1/\((ld N d:Nat):Int)*(N:Nat)=(d:Int)*((lp N d).natAbs:Nat)/\0<(lp (N:Int) d).natAbs:=by
 have h:=q2j (p:=(N:Int)) hd;have k:=q0N (N:Int) d;have z:=q2D (p:=(N:Int)) hd;have a:=q2N (p:=(N:Int)) (d:=d);refine⟨by rw[k1k];exact h,?_,by omega⟩;have:((lp (N:Int) d).natAbs:Int)=lp (N:Int) d:=by omega
 rw[this,k2J (d:Int),k,k2J]
def Sm(n:Nat):Prop:=bl n<=4294967296
theorem q1S(a b:Nat):bl (a*b)<=bl a+bl b:=q0A (by rw[k0e];exact Nat.mul_lt_mul'' (q0O a) (q0O b))
theorem q8s(a b:Nat):bl (a+b)<=max (bl a) (bl b)+1:=q0A (by have h1:=q0O a;have h2:=q0O b;have h3:2^bl a<=2^max (bl a) (bl b):=k00 (by omega) (Nat.le_max_left _ _);have h4:2^bl b<=2^max (bl a) (bl b):=k00 (by omega) (Nat.le_max_right _ _);rw[k0d];omega)
theorem Sm.sz(h:Sm n):Sz n:=by unfold Sm at h;unfold Sz;omega
theorem Sm.mono(h:Sm b)(hab:a<=b):Sm a:=k07 (q1k hab) h
theorem Sm.mul(h:Sm a)(k:Sm b):Sz (a*b):=by have:=q1S a b;unfold Sm at h k;unfold Sz;omega
end
section
open Go
theorem qaZ{e:Int}(ha:0<a)(hb:0<b)(h:b*p2 e<=a*p2 (-e)):e<=q1K a b:=by
 rcases k23 (q1K a b) e with k|k
 ·have:=q38 k (q1O ha hb).2;omega
 ·exact k
theorem qb3{e:Int}(ha:0<a)(hb:0<b)(h:a*p2 (-e)<b*p2 e):q1K a b<e:=by
 rcases k23 (q1K a b) e with k|k
 ·exact k
 ·have:=q9m k (q1O ha hb).1;omega
theorem qaJ(h:q1p E<q1K a b):out E F neg mode a b=(if inner neg mode then q4B E F-1 else q4B E F,3):=by
 have:over E F neg mode a b=true:=by unfold over q58;rw[k2e,k2s];left;omega
 unfold out;rw[k0p this]
theorem q9e(hE:2<=E)(hF:1<=F)(ha:0<a)(hb:0<b)(h:q1K a b < -q1p E-F-1):out E F neg mode a b=(if q37 neg mode qn (-1) then 1 else 0,5):=by
 have t:=q4w hE;have c:q58 E a b=1-q1p E:=by unfold q58;omega
 have e:=(q1O ha hb).2;have u:4*(a*p2 (F-(1-q1p E)))<b:=by
  have g:p2 (-q1K a b)=8*p2 (F-(1-q1p E))*p2 (-q1K a b-(F-(1-q1p E))-3):=by have i:=q2z (m:=3) (n:=F-(1-q1p E)) (by omega) (by omega);have f:=q2z (m:=3+(F-(1-q1p E))) (n:=-q1K a b-(F-(1-q1p E))-3) (by omega) (by omega);rw[show(3:Int)+(F-(1-q1p E))+(-q1K a b-(F-(1-q1p E))-3) = -q1K a b by omega,i] at f;exact f
  rw[q0s (n:=q1K a b) (by omega),k0G,g] at e;have j:=q1d (-q1K a b-(F-(1-q1p E))-3);have v:a*(8*p2 (F-(1-q1p E)))*1<=a*(8*p2 (F-(1-q1p E)))*p2 (-q1K a b-(F-(1-q1p E))-3):=k0m _ j;have k:a*(8*p2 (F-(1-q1p E))*p2 (-q1K a b-(F-(1-q1p E))-3))=a*(8*p2 (F-(1-q1p E)))*p2 (-q1K a b-(F-(1-q1p E))-3):=by grind
  rw[k] at e;have w:a*(8*p2 (F-(1-q1p E)))=8*(a*p2 (F-(1-q1p E))):=by grind
  omega
 have r:0<a*p2 (F-(1-q1p E)):=k0N ha (q1d _);have l:q7D E F a b=a*p2 (F-(1-q1p E)):=by unfold q7D;rw[c,q0s (n:=1-q1p E-F) (by omega),k0G];exact k0E (by omega)
 have o:qaT E F neg mode a b=if q37 neg mode qn (-1) then 1 else 0:=by unfold qaT rnd;rw[c,q0s (n:=1-q1p E-F) (by omega),k0G,k0E (by omega),k0K (by omega),k0r (by omega),q1G (by omega)];rfl
 have d:q51 E F neg mode a b=if q37 neg mode qn (-1) then 1 else 0:=by unfold q51;rw[o,c,show(1-q1p E+q1p E-1).toNat=0 by omega];simp
 have hi:=qcy (F:=F) hE;have s:2^1<=2^F:=k00 (by omega) hF;have p:over E F neg mode a b=qn:=by unfold over;rw[d,c,Bool.or_eq_false_iff,k1i,k1i];refine⟨by omega,?_⟩;have x:3*((2^F:Nat):Int)<=(2*q1p E+1)*(2^F:Nat):=k1C (by omega) (by omega);split<;>omega
 have q:q3I E F neg mode a b=true:=by unfold q3I;rw[k13,k2e,k2s,k2s];exact⟨by omega,.inl (by omega)⟩
 unfold out q6h;rw[p,k0r (by decide),d,l,k0r (show ¬a*p2 (F-(1-q1p E))=0 by omega),q,k0p rfl]
def q57(n K:Int):Int:=max (-K) (min n K)
theorem q9f(f g:Int->Nat)(K n:Int)(hE:2<=E)(hE':E<=11)(hF:1<=F)(hF':F<=52)(hK:0<=K)(hf:∀n,0<f n)(hg:∀n,0<g n)
  (h1:∀n,K<=n->g n*p2 1200<=f n) (h2:∀n,n <= -K->f n*p2 1200<g n):out E F neg mode (f (q57 n K)) (g (q57 n K))=out E F neg mode (f n) (g n):=by
 have d:=q5J hE';have a:∀n,K<=n->out E F neg mode (f n) (g n)=(if inner neg mode then q4B E F-1 else q4B E F,3):=fun n hn=>by have:=qaZ (e:=1200) (hf n) (hg n) (by rw[q0s (n:=-1200) (by omega),k0G];exact h1 n hn);exact qaJ (by omega)
 have b:∀n,n <= -K->out E F neg mode (f n) (g n)=(if q37 neg mode qn (-1) then 1 else 0,5):=fun n hn=>by have:=qb3 (e:=-1200) (hf n) (hg n) (by rw[q0s (n:=-1200) (by omega),k0G];exact h2 n hn);exact q9e hE hF (hf n) (hg n) (by omega)
 unfold q57;rcases k23 n (-K) with h|h
 ·rw[show max (-K) (min n K) = -K by omega,b _ (Int.le_refl _),b _ (by omega)]
 ·rcases k23 K n with c|c
  ·rw[show max (-K) (min n K)=K by omega,a _ (Int.le_refl _),a _ (by omega)]
  ·rw[show max (-K) (min n K)=n by omega]
theorem q9Z(x:Nat)(y:Int):2^x*p2 y=2^(x+y.toNat):=by unfold p2;rw[k0e]
theorem q9Y(k:Nat):2^k<=10^k:=k1j (by omega) k
def t10(n:Int):Nat:=10^n.toNat
theorem q2l(n:Int):0<t10 n:=k1g (by omega)
theorem q7L(c:Int)(n:Int)(hE:2<=E)(hE':E<=11)(hF:1<=F)(hF':F<=52)(ha:0<a)(hb:0<b)(hc:1200<=c):out E F neg mode (a*t10 (q57 n (bl a+bl b+c))) (b*t10 (-q57 n (bl a+bl b+c)))=out E F neg mode (a*t10 n) (b*t10 (-n)):=by
 refine q9f (fun n=>a*t10 n) (fun n=>b*t10 (-n)) _ n hE hE' hF hF' (by omega) (fun n=>k0N ha (q2l _)) (fun n=>k0N hb (q2l _)) (fun n hn=>?_) (fun n hn=>?_)
 ·have d:t10 (-n)=1:=by unfold t10;rw[show(-n).toNat=0 by omega]
  show b*t10 (-n)*p2 1200<=a*t10 n;rw[d,k0G]
  calc b*p2 1200<=2^bl b*p2 1200:=k2q (k1l (q0O b)) lr
   _=2^(bl b+(1200:Int).toNat):=q9Z _ _
   _<=2^n.toNat:=k00 (by omega) (by omega)
   _<=t10 n:=q9Y _
   _<=a*t10 n:=k1R _ ha
 ·have d:t10 n=1:=by unfold t10;rw[show n.toNat=0 by omega]
  show a*t10 n*p2 1200<b*t10 (-n);rw[d,k0G]
  calc a*p2 1200<2^bl a*p2 1200:=k0L (q0O a) (q1d _)
   _=2^(bl a+(1200:Int).toNat):=q9Z _ _
   _<=2^(-n).toNat:=k00 (by omega) (by omega)
   _<=t10 (-n):=q9Y _
   _<=b*t10 (-n):=k1R _ hb
end
end Go.Proofs.YtabcgemembkkcaaGreatDoor
