/- Lemmas. -/
import Derived.KernelRfl
import Derived.StillTail
import Derived.OrdersHeld
set_option linter.all false
open Bool renaming and_eq_true->qa,true->qc,false->ql,or_eq_true->qp
open Go renaming World->qb,wpOp_mono->qe,Region.waitsFor_spec->qh,getD_replicate_false->qi,mem_ready->qj,getD_both->qo,ready_mono->qq
open Decidable renaming decide->qd
open List renaming mem_range->qf,getElem?_toArray->qg,mem_cons->qk,any_eq_true->qm,all_eq_true->qn
namespace Go.Proofs.YtabcgemembkkcaaGreatDoor
variable{n i j g id:Nat}{listed:Array Bool}{L:Array Bool->Act->qb->Prop}{v:Value}{K:Act->qb->Prop}{a:Act}{w:qb}{l:List Oper}{o:Oper}
section
open Go
section
variable {P : Program} {ops : Array Oper} {Q : Exit -> Act -> qb -> Prop} {md : Region.Mode} {S : qb -> Prop}
def qbX(md:Region.Mode)(ops:Array Oper)(n:Nat):Bool:=
 (List.range ops.size).all fun t=>qd (t<=n) || (List.range t).any fun s=>qd (n<=s) && Region.waitsFor md ops t s
def q6E(md:Region.Mode)(ops:Array Oper)(n:Nat):Bool:=qd (n=ops.size) || (qd (n<ops.size) && Region.sinkB md ops n && qbX md ops n)
theorem q6D(hs:Region.sinkB md ops n=qc)(hc:qbX md ops n=qc)(hn:n<ops.size)(inv:HeadInv md ops n listed):∀(d i:Nat),n-i=d->i<n->listed.getD i qc=ql->∀t,n<=t->t ∉ Region.ready md ops listed:=by
 intro d
 induction d using Nat.strongRecOn with
 | _ d ih =>
  intro i G hi m t D u;obtain⟨_,v,h,o⟩:=qj.1 u;have x:t<ops.size:=(Array.getElem?_eq_some_iff.1 h).1;rcases Nat.eq_or_lt_of_le D with p|p
  ·subst p;obtain⟨j,E,q⟩:=qm.1 (qn.1 hs i (qf.2 hi));simp only[qa,decide_eq_true_eq] at q;obtain⟨w,r,e,f,g,c⟩:=qh q.2;have y:j<=n:=by have:=qf.1 E;omega
   rcases Nat.eq_or_lt_of_le y with k|k
   ·subst k;obtain rfl:w=v:=Option.some.inj (r.symm.trans h);have a:=o e f g;rw[c,qo m] at a;cases a
   ·cases hl:listed.getD j ql with
    | true =>have a:=inv.closed j w r hl e f g;rw[c,qo m] at a;cases a
    | false=>exact ih (n-j) (by omega) j rfl k (getD_in (by rw[inv.size];omega) hl) n (Nat.le_refl _) u
  ·have b:=qn.1 hc t (qf.2 x);simp only[qp,decide_eq_true_eq] at b;rcases b with b|b
   ·omega
   ·obtain⟨s,z,l⟩:=qm.1 b;simp only[qa,decide_eq_true_eq] at l;obtain⟨F,C,e,f,g,c⟩:=qh l.2;obtain rfl:F=v:=Option.some.inj (C.symm.trans h);have a:=o e f g;rw[c,qo (inv.tail s l.1 (by have:=qf.1 z;omega))] at a;cases a
theorem q7r(h:q6E md ops n=qc)(inv:HeadInv md ops n listed)(hi:i<n)(hun:listed.getD i qc=ql)(hj:j∈Region.ready md ops listed):j<n:=by
 obtain⟨_,o,a,_⟩:=qj.1 hj;have e:j<ops.size:=(Array.getElem?_eq_some_iff.1 a).1;simp only[q6E,qp,qa,decide_eq_true_eq] at h;rcases h with h|⟨⟨b,c⟩,d⟩
 ·omega
 ·rcases Nat.lt_or_ge j n with h|h
  ·exact h
  ·exact absurd hj (q6D c d b inv _ i rfl hi hun j h)
def wpH(P:Program)(md:Region.Mode)(ops:Array Oper)(Q:Exit->Act->qb->Prop)(S:qb->Prop)(n:Nat)(L:Array Bool->Act->qb->Prop):Nat->Array Bool->Act->qb->Prop
 | 0,listed,a,w=>L listed a w
 | f+1,listed,a,w=>Region.ready md ops listed≠[]/\∀i∈Region.ready md ops listed,i<n/\wpOp P ops Q i (fun a' w'=>S w'/\wpH P md ops Q S n L f (listed.setIfInBounds i qc) a' w') a w
theorem q3M(hL:∀listed a w,L listed a w->wpAny P md ops Q g listed a w):∀(f:Nat) (listed:Array Bool) (a:Act) (w:qb),wpH P md ops Q S n L f listed a w->wpAny P md ops Q (f+g) listed a w
 | 0,listed,a,w,h=>by rw[Nat.zero_add];exact hL _ _ _ h
 | f+1,listed,a,w,h=>by rw[show f+1+g=(f+g)+1 by omega];exact⟨fun h0=>absurd h0 h.1,fun i hi=>qe (fun a' w' h'=>q3M hL f _ a' w' h'.2) (h.2 i hi).2⟩
theorem q76{oi:Oper}(hi:ops[i]?=some oi)(hsel:∀(j:Nat) (o:Oper) cs b,ops[j]?=some o->o.op≠.select cs b)
  (hside:q6E md ops n=qc) (hin:i<n) (hQ:∀c a w,Q (.panic c) (a.put oi.dst v) w->Q (.panic c) a w)
  (hdone:∀listed a w,L listed a w->∀j∈Region.ready md ops listed,n<=j) :
  ∀(f:Nat) (listed:Array Bool) (a:Act) (w:qb),HeadInv md ops n listed ->(∀j oj,ops[j]?=some oj->j≠i->listed.getD j qc=ql->(∀e∈oj.after,Region.binds md e=qc->e.on≠i)->oi.apart ops oj=qc) ->i∈Region.ready md ops listed->YieldsIf P ops S oi v a->S w ->wpH P md ops Q S n L f (listed.setIfInBounds i qc) (a.put oi.dst v) w->wpH P md ops Q S n L (f+1) listed a w:=by
 intro f
 induction f with
 | zero =>
  intro listed a w m _ d q l H;have g:=(qj.1 d).1;refine⟨fun h=>(by rw[h] at d;cases d),fun j hj=>?_⟩;have p:=q7r hside m hin g hj;refine⟨p,?_⟩;by_cases hji:j=i
  ·subst hji;exact q.wpOp hi l ⟨l,H⟩
  ·have:=hdone _ _ _ H j (qq hj hji);omega
 | succ f ih =>
  intro listed a w m t d q l H;have g:=(qj.1 d).1;refine⟨fun h=>(by rw[h] at d;cases d),fun j hj=>?_⟩;have p:=q7r hside m hin g hj;refine⟨p,?_⟩;by_cases hji:j=i
  ·subst hji;exact q.wpOp hi l ⟨l,H⟩
  ·have r:=(H.2 j (qq hj hji)).2;obtain⟨u,oj,s,x⟩:=qj.1 hj;have y:∀e∈oj.after,Region.binds md e=qc->e.on≠i:=fun e he hb z=>by have r:=x e he hb;rw[z,qo g] at r;cases r
   have F:=wpOp_putIf s (t j oj s hji u y) (fun cs b=>hsel i oi cs b hi) (fun cs b=>hsel j oj cs b s) hQ q r;have C:∀k ok,ops[k]?=some ok->k≠i->(listed.setIfInBounds j qc).getD k qc=ql ->(∀e∈ok.after,Region.binds md e=qc->e.on≠i)->oi.apart ops ok=qc:=fun k ok hk D g E=>by
    refine t k ok hk D ?_ E;by_cases hjk:j=k
    ·subst hjk;exact u
    ·rw[getD_set_ne qc hjk] at g;exact g
   refine qe (fun a' w' h3=>⟨h3.2.1,ih (listed.setIfInBounds j qc) a' w' (m.set hj p) C (qq d (Ne.symm hji)) h3.1 h3.2.1 ?_⟩) F;rw[Array.setIfInBounds_comm _ _ hji];exact h3.2.2
inductive Sch where
 | done
 | still (i:Nat) (t:Sch)
 | one (i:Nat) (t:Sch)
 | two (i:Nat) (t:Sch) (j:Nat) (u:Sch)
 | three (i:Nat) (t:Sch) (j:Nat) (u:Sch) (k:Nat) (x:Sch)
def stl(a:Nat):Nat->Sch->Sch
 | 0,t=>t
 | k+1,t=>.still a (stl (a+1) k t)
def q1l(P:Program)(ops:Array Oper)(Q:Exit->Act->qb->Prop)(S:qb->Prop)(K:Act->qb->Prop):Sch->Act->qb->Prop
 | .done,a,w=>K a w
 | .still i t,a,w=>∃o v,ops[i]?=some o/\YieldsIf P ops S o v a/\q1l P ops Q S K t (a.put o.dst v) w
 | .one i t,a,w=>wpOp P ops Q i (fun a' w'=>S w'/\(S w'->q1l P ops Q S K t a' w')) a w
 | .two i t j u,a,w=>wpOp P ops Q i (fun a' w'=>S w'/\(S w'->q1l P ops Q S K t a' w')) a w/\wpOp P ops Q j (fun a' w'=>S w'/\(S w'->q1l P ops Q S K u a' w')) a w
 | .three i t j u k x,a,w=>wpOp P ops Q i (fun a' w'=>S w'/\(S w'->q1l P ops Q S K t a' w')) a w/\wpOp P ops Q j (fun a' w'=>S w'/\(S w'->q1l P ops Q S K u a' w')) a w/\wpOp P ops Q k (fun a' w'=>S w'/\(S w'->q1l P ops Q S K x a' w')) a w
def q2m(md:Region.Mode)(ops:Array Oper)(n:Nat)(E:Array Bool->Bool):Nat->Sch->Array Bool->Bool
 | 0,.done,listed=>E listed
 | f+1,.still i t,listed=>qd (i<n) && (Region.ready md ops listed).contains i && Region.free md ops listed i && q2m md ops n E f t (listed.setIfInBounds i qc)
 | f+1,.one i t,listed=>qd (i<n) && qd (Region.ready md ops listed=[i]) && q2m md ops n E f t (listed.setIfInBounds i qc)
 | f+1,.two i t j u,listed=>qd (i<n) && qd (j<n) && qd (Region.ready md ops listed=[i,j]) && q2m md ops n E f t (listed.setIfInBounds i qc) && q2m md ops n E f u (listed.setIfInBounds j qc)
 | f+1,.three i t j u k x,listed=>qd (i<n) && qd (j<n) && qd (k<n) && qd (Region.ready md ops listed=[i,j,k]) && q2m md ops n E f t (listed.setIfInBounds i qc) && q2m md ops n E f u (listed.setIfInBounds j qc) && q2m md ops n E f x (listed.setIfInBounds k qc)
 | _,_,_=>ql
theorem q1b{E:Array Bool->Bool}(hsel:Region.noSelect ops=qc)(hside:q6E md ops n=qc)(hQ:∀c a d v w,Q (.panic c) (Act.put a d v) w->Q (.panic c) a w)
  (hE:∀listed,E listed=qc->∀j∈Region.ready md ops listed,n<=j) :
  ∀(f:Nat) (t:Sch) (listed:Array Bool) (a:Act) (w:qb),HeadInv md ops n listed->q2m md ops n E f t listed=qc->S w->q1l P ops Q S K t a w ->wpH P md ops Q S n (fun listed' a' w'=>E listed'=qc/\HeadInv md ops n listed'/\S w'/\K a' w') f listed a w
 | 0,.done,listed,a,w,inv,hok,hS,h=>⟨hok,inv,hS,h⟩
 | 0,.still _ _,_,_,_,_,hok,_,_=>by cases hok
 | 0,.one _ _,_,_,_,_,hok,_,_=>by cases hok
 | 0,.two _ _ _ _,_,_,_,_,hok,_,_=>by cases hok
 | 0,.three _ _ _ _ _ _,_,_,_,_,hok,_,_=>by cases hok
 | _+1,.done,_,_,_,_,hok,_,_=>by cases hok
 | f+1,.still i t,listed,a,w,inv,hok,hS,h=>by
  simp only[q2m,qa,decide_eq_true_eq] at hok;obtain⟨⟨⟨hin,hr⟩,hf⟩,hok'⟩:=hok;obtain⟨o,v,ho,hy,h'⟩:=h;have hr':i∈Region.ready md ops listed:=by simpa using hr
  exact q76 ho (Region.noSelect_spec hsel) hside hin (fun c a w=>hQ c a _ _ w) (fun l a w hl=>hE l hl.1) f listed a w inv (Region.free_spec ho hf) hr' hy hS
   (q1b hsel hside hQ hE f t _ _ w (inv.set hr' hin) hok' hS h')
 | f+1,.one i t,listed,a,w,inv,hok,hS,h=>by
  simp only[q2m,qa,decide_eq_true_eq] at hok;obtain⟨⟨hin,hr⟩,hok'⟩:=hok;refine⟨fun h0=>(by rw[hr] at h0;cases h0),fun j hj=>?_⟩;have z:=hj;rw[hr] at hj;obtain rfl:j=i:=by simpa using hj
  exact⟨hin,qe (fun a' w' h'=>⟨h'.1,q1b hsel hside hQ hE f t _ a' w' (inv.set z hin) hok' h'.1 (h'.2 h'.1)⟩) h⟩
 | f+1,.two i t j u,listed,a,w,inv,hok,hS,h=>by
  simp only[q2m,qa,decide_eq_true_eq] at hok;obtain⟨⟨⟨⟨hin,e⟩,hr⟩,p⟩,q⟩:=hok;refine⟨fun h0=>(by rw[hr] at h0;cases h0),fun k g=>?_⟩;have s:=g;rw[hr] at g;rcases qk.1 g with rfl|g
  ·exact⟨hin,qe (fun a' w' h'=>⟨h'.1,q1b hsel hside hQ hE f t _ a' w' (inv.set s hin) p h'.1 (h'.2 h'.1)⟩) h.1⟩
  ·obtain rfl:k=j:=by simpa using g
   exact⟨e,qe (fun a' w' h'=>⟨h'.1,q1b hsel hside hQ hE f u _ a' w' (inv.set s e) q h'.1 (h'.2 h'.1)⟩) h.2⟩
 | f+1,.three i t j u k x,listed,a,w,inv,hok,hS,h=>by
  simp only[q2m,qa,decide_eq_true_eq] at hok;obtain⟨⟨⟨⟨⟨⟨hin,e⟩,y⟩,hr⟩,p⟩,q⟩,C⟩:=hok;refine⟨fun h0=>(by rw[hr] at h0;cases h0),fun m b=>?_⟩;have r:=b;rw[hr] at b;rcases qk.1 b with rfl|b
  ·exact⟨hin,qe (fun a' w' h'=>⟨h'.1,q1b hsel hside hQ hE f t _ a' w' (inv.set r hin) p h'.1 (h'.2 h'.1)⟩) h.1⟩
  rcases qk.1 b with rfl|b
  ·exact⟨e,qe (fun a' w' h'=>⟨h'.1,q1b hsel hside hQ hE f u _ a' w' (inv.set r e) q h'.1 (h'.2 h'.1)⟩) h.2.1⟩
  ·obtain rfl:m=k:=by simpa using b
   exact⟨y,qe (fun a' w' h'=>⟨h'.1,q1b hsel hside hQ hE f x _ a' w' (inv.set r y) C h'.1 (h'.2 h'.1)⟩) h.2.2⟩
def qdq(ops:Array Oper)(n:Nat)(t:Sch):Bool:=
 Region.noSelect ops && qd (n<=ops.size) && q6E .any ops n && q2m .any ops n (Region.seqB .any ops (ops.size-n) n) n t (Array.replicate ops.size ql)
theorem q7u{k:Nat}(h:Region.seqB md ops g k listed=qc):∀j∈Region.ready md ops listed,k<=j:=seqB_ready h
theorem q45(S:qb->Prop)(n:Nat)(t:Sch)(hm:P.follows .mixedOrders=qc)(hB:qdq l.toArray n t=qc)
  (hQ:∀c a d v w,Q (.panic c) (Act.put a d v) w->Q (.panic c) a w) (hS:S w.drew)
  (h:S w.drew->q1l P l.toArray Q S (wpList P l.toArray Q (l.drop n)) t a w.drew):(Code.region id l.toArray qc).wp P Q a w:=by
 simp only[qdq,qa,decide_eq_true_eq] at hB;obtain⟨⟨⟨e,m⟩,f⟩,i⟩:=hB;have o:n<=l.length:=by simpa using m
 have b:(l.drop n).length=l.toArray.size-n:=by simp
 have k:HeadInv .any l.toArray n (Array.replicate l.toArray.size ql):=⟨by simp,fun j oj _ hl=>(by rw[qi] at hl;cases hl),fun t _ ht=>getD_in (by simpa using ht) (qi _ _)⟩;have H:=q1b (P:=P) (md:=.any) (S:=S) (K:=wpList P l.toArray Q (l.drop n)) e f hQ (fun listed hl=>q7u hl) n t _ a w.drew k i hS (h hS);refine wp_region_any hm ?_;have:=q3M (Q:=Q) (g:=l.toArray.size-n) (fun listed a' w' hL=>by
  have:=wpAny_of_seq (md:=.any) (Q':=Q) (l.drop n) n listed a' w' (fun j=>by simp [List.getElem?_drop]) (by rw[b];exact hL.1) hL.2.2.2
  rwa [b] at this) _ _ _ _ H
 rw[show n+(l.toArray.size-n)=l.toArray.size by simp;omega] at this;exact this
def qeo(ops:Array Oper)(n:Nat)(t u:Sch):Bool:=
 Region.noSelect ops && qd (n<=ops.size) && q6E .any ops n &&
  q2m .any ops n (fun listed=>q2m .any ops ops.size (fun l=>(Region.ready .any ops l).isEmpty) (ops.size-n) u listed && (Region.ready .any ops listed).all fun j=>qd (n<=j)) n t (Array.replicate ops.size ql)
theorem q02(S:qb->Prop)(n:Nat)(t:Sch)(hS:S w.drew)
  (h:S w.drew->q1l P l.toArray Q S (wpList P l.toArray Q (l.drop n)) t a w.drew) (hm:P.follows .mixedOrders=qc:=by kernel_rfl) (hB:qdq l.toArray n t=qc:=by kernel_rfl)
  (hQ:∀c a d v w,Q (.panic c) (Act.put a d v) w->Q (.panic c) a w:=by intro _ _ d _ _ h;cases d<;>exact h):(Code.region id l.toArray qc).wp P Q a w:=q45 S n t hm hB hQ hS h
theorem q7w{t:Sch}(ho:l[i]?=some o)(hw:Region.wanted o (yielded l.toArray a.tmps)=qc)
  (hy:∀w,S w->(execOp a.eval o).run P w=.ok (.value v) w) (h:q1l P l.toArray Q S K t (a.put o.dst v) w):q1l P l.toArray Q S K (.still i t) a w:=
 ⟨o,v,by rw[qg];exact ho,.inl ⟨hw,hy⟩,h⟩
theorem q03{t:Sch}{b:Act}(h:q1l P l.toArray Q S K t b w)(ho:l[i]?=some o:=by exact rfl)
  (hw:Region.wanted o (yielded l.toArray a.tmps)=qc:=by rfl) (hy:∀w,S w->(execOp a.eval o).run P w=.ok (.value v) w:=by intro w c;go_simp;with_reducible rfl)
  (hb:a.put o.dst v=b:=by simp only[Act.put,List.setIfInBounds_toArray,List.set_cons_zero,List.set_cons_succ];exact rfl):q1l P l.toArray Q S K (.still i t) a w:=
 q7w ho hw hy (hb ▸ h)
def q9S(p:Prop):Prop:=p
theorem q9S.out{p:Prop}(h:q9S p):p:=h
theorem q3S{t:Sch}(ho:l[i]?=some o)(hw:Region.wanted o (yielded l.toArray a.tmps)=qc)
  (h:∀K':Act->qb->Prop,q9S (∀a w,S w->(S w->q1l P l.toArray Q S K t a w)->K' a w)->o.wp P a w K' Q):wpOp P l.toArray Q i (fun a' w'=>S w'/\(S w'->q1l P l.toArray Q S K t a' w')) a w:=by
 unfold wpOp;rw[qg];simp only[ho,hw,if_true];exact .inl (Oper.wp_mono (fun a w h=>h) (h _ (fun a w h1 h2=>⟨h1,h2⟩)))
theorem q01{t:Sch}(ho:l[i]?=some o)(hw:Region.wanted o (yielded l.toArray a.tmps)=qc)
  (h:∀K':Act->qb->Prop,q9S (∀a w,S w->(S w->q1l P l.toArray Q S K t a w)->K' a w)->o.wp P a w K' Q):q1l P l.toArray Q S K (.one i t) a w:=q3S ho hw h
theorem q0e{t u:Sch}{p:Oper}(ho:l[i]?=some o)(hw:Region.wanted o (yielded l.toArray a.tmps)=qc)(hp:l[j]?=some p)(hx:Region.wanted p (yielded l.toArray a.tmps)=qc)
  (h:∀K':Act->qb->Prop,q9S (∀a w,S w->(S w->q1l P l.toArray Q S K t a w)->K' a w)->o.wp P a w K' Q)
  (k:∀K':Act->qb->Prop,q9S (∀a w,S w->(S w->q1l P l.toArray Q S K u a w)->K' a w)->p.wp P a w K' Q):q1l P l.toArray Q S K (.two i t j u) a w:=⟨q3S ho hw h,q3S hp hx k⟩
theorem q0T(hn:l.drop n=[])(h:Q .normal a w):q1l P l.toArray Q S (wpList P l.toArray Q (l.drop n)) .done a w:=by show wpList P l.toArray Q (l.drop n) a w;rw[hn];exact h
theorem q08(h:K a w):q1l P ops Q S K .done a w:=h
end
end
end Go.Proofs.YtabcgemembkkcaaGreatDoor
