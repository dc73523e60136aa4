/- Lemmas. -/
import Derived.StillTail
import Derived.OrdersHeld
set_option linter.all false
namespace Go.Proofs.YtcdimmblnbkjjaaGreatDoor
open Go
section
variable {P : Program} {ops : Array Oper} {Q : Exit -> Act -> World -> Prop} {md : Region.Mode} {S : World -> Prop}
def qau(md:Region.Mode)(ops:Array Oper)(n:Nat):Bool:=
 (List.range ops.size).all fun t=>decide (t<=n) || (List.range t).any fun s=>decide (n<=s) && Region.waitsFor md ops t s
def q5S(md:Region.Mode)(ops:Array Oper)(n:Nat):Bool:=decide (n=ops.size) || (decide (n<ops.size) && Region.sinkB md ops n && qau md ops n)
theorem q5R{n:Nat}{listed:Array Bool}(hs:Region.sinkB md ops n=true)(hc:qau md ops n=true)(hn:n<ops.size)(inv:HeadInv md ops n listed):
  ∀(d i:Nat),n-i=d->i<n->listed.getD i true=false->∀t,n<=t->t ∉ Region.ready md ops listed:=by
 intro d
 induction d using Nat.strongRecOn with
 | _ d ih =>
  intro i hd hi a7 t ht hr;obtain⟨_,ot,a2,a0⟩:=mem_ready.1 hr;have a3:t<ops.size:=(Array.getElem?_eq_some_iff.1 a2).1;rcases Nat.eq_or_lt_of_le ht with a8|a8
  ·subst a8;obtain⟨j,hj,a9⟩:=List.any_eq_true.1 (List.all_eq_true.1 hs i (List.mem_range.2 hi));simp only[Bool.and_eq_true,decide_eq_true_eq] at a9;obtain⟨oj,b0,e,he,hb,a1⟩:=Region.waitsFor_spec a9.2;have a4:j<=n:=by have:=List.mem_range.1 hj;omega
   rcases Nat.eq_or_lt_of_le a4 with a5|a5
   ·subst a5;obtain rfl:oj=ot:=Option.some.inj (b0.symm.trans a2);have h2:=a0 e he hb;rw[a1,getD_both a7] at h2;cases h2
   ·cases hl:listed.getD j false with
    | true =>
     have h2:=inv.closed j oj b0 hl e he hb;rw[a1,getD_both a7] at h2;cases h2
    | false=>exact ih (n-j) (by omega) j rfl a5 (getD_in (by rw[inv.size];omega) hl) n (Nat.le_refl _) hr
  ·have h1:=List.all_eq_true.1 hc t (List.mem_range.2 a3);simp only[Bool.or_eq_true,decide_eq_true_eq] at h1;rcases h1 with h1|h1
   ·omega
   ·obtain⟨s,b1,a6⟩:=List.any_eq_true.1 h1;simp only[Bool.and_eq_true,decide_eq_true_eq] at a6;obtain⟨o',b2,e,he,hb,a1⟩:=Region.waitsFor_spec a6.2;obtain rfl:o'=ot:=Option.some.inj (b2.symm.trans a2);have h2:=a0 e he hb;rw[a1,getD_both (inv.tail s a6.1 (by have:=List.mem_range.1 b1;omega))] at h2;cases h2
theorem q6z{n i j:Nat}{listed:Array Bool}(h:q5S md ops n=true)(inv:HeadInv md ops n listed)(hi:i<n)(hun:listed.getD i true=false)(hj:j∈Region.ready md ops listed):j<n:=by
 obtain⟨_,o,ho,_⟩:=mem_ready.1 hj;have a0:j<ops.size:=(Array.getElem?_eq_some_iff.1 ho).1;simp only[q5S,Bool.or_eq_true,Bool.and_eq_true,decide_eq_true_eq] at h;rcases h with h|⟨⟨h1,h2⟩,h3⟩
 ·omega
 ·rcases Nat.lt_or_ge j n with h|h
  ·exact h
  ·exact absurd hj (q5R h2 h3 h1 inv _ i rfl hi hun j h)
def wpH(P:Program)(md:Region.Mode)(ops:Array Oper)(Q:Exit->Act->World->Prop)(S:World->Prop)(n:Nat)(L:Array Bool->Act->World->Prop):Nat->Array Bool->Act->World->Prop
 | 0,listed,a,w=>L listed a w
 | f+1,listed,a,w=>Region.ready md ops listed≠[]/\∀i∈Region.ready md ops listed,i<n/\wpOp P ops Q i (fun a' w'=>S w'/\wpH P md ops Q S n L f (listed.setIfInBounds i true) a' w') a w
theorem q3E{n g:Nat}{L:Array Bool->Act->World->Prop}(hL:∀listed a w,L listed a w->wpAny P md ops Q g listed a w):
  ∀(f:Nat) (listed:Array Bool) (a:Act) (w:World),wpH P md ops Q S n L f listed a w->wpAny P md ops Q (f+g) listed a w
 | 0,listed,a,w,h=>by rw[Nat.zero_add];exact hL _ _ _ h
 | f+1,listed,a,w,h=>by
  rw[show f+1+g=(f+g)+1 by omega];exact⟨fun h0=>absurd h0 h.1,fun i hi=>wpOp_mono (fun a' w' h'=>q3E hL f _ a' w' h'.2) (h.2 i hi).2⟩
theorem q6m{n i:Nat}{oi:Oper}{v:Value}{L:Array Bool->Act->World->Prop}(hi:ops[i]?=some oi)(hsel:∀(j:Nat) (o:Oper) cs b,ops[j]?=some o->o.op≠.select cs b)
  (hside:q5S md ops n=true) (hin:i<n) (hQ:∀c a w,Q (.panic c) (a.put oi.dst v) w->Q (.panic c) a w)
  (hdone:∀listed a w,L listed a w->∀j∈Region.ready md ops listed,n<=j) :
  ∀(f:Nat) (listed:Array Bool) (a:Act) (w:World),HeadInv md ops n listed ->
   (∀j oj,ops[j]?=some oj->j≠i->listed.getD j true=false->(∀e∈oj.after,Region.binds md e=true->e.on≠i)->oi.apart ops oj=true) ->
   i∈Region.ready md ops listed->YieldsIf P ops S oi v a->S w ->
   wpH P md ops Q S n L f (listed.setIfInBounds i true) (a.put oi.dst v) w->wpH P md ops Q S n L (f+1) listed a w:=by
 intro f
 induction f with
 | zero =>
  intro listed a w inv _ hr hy hS H;have a1:=(mem_ready.1 hr).1;refine⟨fun h=>(by rw[h] at hr;cases hr),fun j hj=>?_⟩;have a4:=q6z hside inv hin a1 hj;refine⟨a4,?_⟩;by_cases hji:j=i
  ·subst hji;exact hy.wpOp hi hS ⟨hS,H⟩
  ·have:=hdone _ _ _ H j (ready_mono hj hji);omega
 | succ f ih =>
  intro listed a w inv a0 hr hy hS H;have a1:=(mem_ready.1 hr).1;refine⟨fun h=>(by rw[h] at hr;cases hr),fun j hj=>?_⟩;have a4:=q6z hside inv hin a1 hj;refine⟨a4,?_⟩;by_cases hji:j=i
  ·subst hji;exact hy.wpOp hi hS ⟨hS,H⟩
  ·have h1:=(H.2 j (ready_mono hj hji)).2;obtain⟨a3,oj,a5,a6⟩:=mem_ready.1 hj;have a7:∀e∈oj.after,Region.binds md e=true->e.on≠i:=fun e he hb a8=>by
    have h1:=a6 e he hb;rw[a8,getD_both a1] at h1;cases h1
   have h2:=wpOp_putIf a5 (a0 j oj a5 hji a3 a7) (fun cs b=>hsel i oi cs b hi) (fun cs b=>hsel j oj cs b a5) hQ hy h1;have a2:∀k ok,ops[k]?=some ok->k≠i->(listed.setIfInBounds j true).getD k true=false ->
     (∀e∈ok.after,Region.binds md e=true->e.on≠i)->oi.apart ops ok=true:=fun k ok hk a9 a1 b0=>by
    refine a0 k ok hk a9 ?_ b0;by_cases hjk:j=k
    ·subst hjk;exact a3
    ·rw[getD_set_ne true hjk] at a1;exact a1
   refine wpOp_mono (fun a' w' h3=>⟨h3.2.1,ih (listed.setIfInBounds j true) a' w' (inv.set hj a4) a2 (ready_mono hr (Ne.symm hji)) h3.1 h3.2.1 ?_⟩) h2;rw[Array.setIfInBounds_comm _ _ hji];exact h3.2.2
inductive Sch where
 | done
 | still (i:Nat) (t:Sch)
 | one (i:Nat) (t:Sch)
 | two (i:Nat) (t:Sch) (j:Nat) (u:Sch)
 | three (i:Nat) (t:Sch) (j:Nat) (u:Sch) (k:Nat) (x:Sch)
def q1p(P:Program)(ops:Array Oper)(Q:Exit->Act->World->Prop)(S:World->Prop)(K:Act->World->Prop):Sch->Act->World->Prop
 | .done,a,w=>K a w
 | .still i t,a,w=>∃o v,ops[i]?=some o/\YieldsIf P ops S o v a/\q1p P ops Q S K t (a.put o.dst v) w
 | .one i t,a,w=>wpOp P ops Q i (fun a' w'=>S w'/\(S w'->q1p P ops Q S K t a' w')) a w
 | .two i t j u,a,w=>wpOp P ops Q i (fun a' w'=>S w'/\(S w'->q1p P ops Q S K t a' w')) a w/\wpOp P ops Q j (fun a' w'=>S w'/\(S w'->q1p P ops Q S K u a' w')) a w
 | .three i t j u k x,a,w=>wpOp P ops Q i (fun a' w'=>S w'/\(S w'->q1p P ops Q S K t a' w')) a w/\wpOp P ops Q j (fun a' w'=>S w'/\(S w'->q1p P ops Q S K u a' w')) a w/\wpOp P ops Q k (fun a' w'=>S w'/\(S w'->q1p P ops Q S K x a' w')) a w
def q29(md:Region.Mode)(ops:Array Oper)(n:Nat)(E:Array Bool->Bool):Nat->Sch->Array Bool->Bool
 | 0,.done,listed=>E listed
 | f+1,.still i t,listed=>decide (i<n) && (Region.ready md ops listed).contains i && Region.free md ops listed i && q29 md ops n E f t (listed.setIfInBounds i true)
 | f+1,.one i t,listed=>decide (i<n) && decide (Region.ready md ops listed=[i]) && q29 md ops n E f t (listed.setIfInBounds i true)
 | f+1,.two i t j u,listed=>decide (i<n) && decide (j<n) && decide (Region.ready md ops listed=[i,j]) && q29 md ops n E f t (listed.setIfInBounds i true) && q29 md ops n E f u (listed.setIfInBounds j true)
 | f+1,.three i t j u k x,listed=>decide (i<n) && decide (j<n) && decide (k<n) && decide (Region.ready md ops listed=[i,j,k]) && q29 md ops n E f t (listed.setIfInBounds i true) && q29 md ops n E f u (listed.setIfInBounds j true) && q29 md ops n E f x (listed.setIfInBounds k true)
 | _,_,_=>false
theorem q0P{n:Nat}{E:Array Bool->Bool}{K:Act->World->Prop}(hsel:Region.noSelect ops=true)(hside:q5S md ops n=true)(hQ:∀c a d v w,Q (.panic c) (Act.put a d v) w->Q (.panic c) a w)
  (hE:∀listed,E listed=true->∀j∈Region.ready md ops listed,n<=j) :
  ∀(f:Nat) (t:Sch) (listed:Array Bool) (a:Act) (w:World),HeadInv md ops n listed->q29 md ops n E f t listed=true->S w->q1p P ops Q S K t a w ->
   wpH P md ops Q S n (fun listed' a' w'=>E listed'=true/\HeadInv md ops n listed'/\S w'/\K a' w') f listed a w
 | 0,.done,listed,a,w,inv,hok,hS,h=>⟨hok,inv,hS,h⟩
 | 0,.still _ _,_,_,_,_,hok,_,_=>by cases hok
 | 0,.one _ _,_,_,_,_,hok,_,_=>by cases hok
 | 0,.two _ _ _ _,_,_,_,_,hok,_,_=>by cases hok
 | 0,.three _ _ _ _ _ _,_,_,_,_,hok,_,_=>by cases hok
 | _+1,.done,_,_,_,_,hok,_,_=>by cases hok
 | f+1,.still i t,listed,a,w,inv,hok,hS,h=>by
  simp only[q29,Bool.and_eq_true,decide_eq_true_eq] at hok;obtain⟨⟨⟨hin,hr⟩,hf⟩,hok'⟩:=hok;obtain⟨o,v,ho,hy,h'⟩:=h;have hr':i∈Region.ready md ops listed:=by simpa using hr
  exact q6m ho (Region.noSelect_spec hsel) hside hin (fun c a w=>hQ c a _ _ w) (fun l a w hl=>hE l hl.1) f listed a w inv (Region.free_spec ho hf) hr' hy hS
   (q0P hsel hside hQ hE f t _ _ w (inv.set hr' hin) hok' hS h')
 | f+1,.one i t,listed,a,w,inv,hok,hS,h=>by
  simp only[q29,Bool.and_eq_true,decide_eq_true_eq] at hok;obtain⟨⟨hin,hr⟩,hok'⟩:=hok;refine⟨fun h0=>(by rw[hr] at h0;cases h0),fun j hj=>?_⟩;have a7:=hj;rw[hr] at hj;obtain rfl:j=i:=by simpa using hj
  exact⟨hin,wpOp_mono (fun a' w' h'=>⟨h'.1,q0P hsel hside hQ hE f t _ a' w' (inv.set a7 hin) hok' h'.1 (h'.2 h'.1)⟩) h⟩
 | f+1,.two i t j u,listed,a,w,inv,hok,hS,h=>by
  simp only[q29,Bool.and_eq_true,decide_eq_true_eq] at hok;obtain⟨⟨⟨⟨hin,a2⟩,hr⟩,a0⟩,a1⟩:=hok;refine⟨fun h0=>(by rw[hr] at h0;cases h0),fun k hk=>?_⟩;have a5:=hk;rw[hr] at hk;rcases List.mem_cons.1 hk with rfl|hk
  ·exact⟨hin,wpOp_mono (fun a' w' h'=>⟨h'.1,q0P hsel hside hQ hE f t _ a' w' (inv.set a5 hin) a0 h'.1 (h'.2 h'.1)⟩) h.1⟩
  ·obtain rfl:k=j:=by simpa using hk
   exact⟨a2,wpOp_mono (fun a' w' h'=>⟨h'.1,q0P hsel hside hQ hE f u _ a' w' (inv.set a5 a2) a1 h'.1 (h'.2 h'.1)⟩) h.2⟩
 | f+1,.three i t j u k x,listed,a,w,inv,hok,hS,h=>by
  simp only[q29,Bool.and_eq_true,decide_eq_true_eq] at hok;obtain⟨⟨⟨⟨⟨⟨hin,a2⟩,a6⟩,hr⟩,a0⟩,a1⟩,a3⟩:=hok;refine⟨fun h0=>(by rw[hr] at h0;cases h0),fun m hm=>?_⟩;have a4:=hm;rw[hr] at hm;rcases List.mem_cons.1 hm with rfl|hm
  ·exact⟨hin,wpOp_mono (fun a' w' h'=>⟨h'.1,q0P hsel hside hQ hE f t _ a' w' (inv.set a4 hin) a0 h'.1 (h'.2 h'.1)⟩) h.1⟩
  rcases List.mem_cons.1 hm with rfl|hm
  ·exact⟨a2,wpOp_mono (fun a' w' h'=>⟨h'.1,q0P hsel hside hQ hE f u _ a' w' (inv.set a4 a2) a1 h'.1 (h'.2 h'.1)⟩) h.2.1⟩
  ·obtain rfl:m=k:=by simpa using hm
   exact⟨a6,wpOp_mono (fun a' w' h'=>⟨h'.1,q0P hsel hside hQ hE f x _ a' w' (inv.set a4 a6) a3 h'.1 (h'.2 h'.1)⟩) h.2.2⟩
def qbN(ops:Array Oper)(n:Nat)(t:Sch):Bool:=
 Region.noSelect ops && decide (n<=ops.size) && q5S .any ops n && q29 .any ops n (Region.seqB .any ops (ops.size-n) n) n t (Array.replicate ops.size false)
theorem q6A{g k:Nat}{listed:Array Bool}(h:Region.seqB md ops g k listed=true):∀j∈Region.ready md ops listed,k<=j:=seqB_ready h
theorem q01{id:Nat}{a:Act}{w:World}{l:List Oper}(S:World->Prop)(n:Nat)(t:Sch)(hm:P.follows .mixedOrders=true)(hB:qbN l.toArray n t=true)
  (hQ:∀c a d v w,Q (.panic c) (Act.put a d v) w->Q (.panic c) a w) (hS:S w.drew)
  (h:S w.drew->q1p P l.toArray Q S (wpList P l.toArray Q (l.drop n)) t a w.drew):(Code.region id l.toArray true).wp P Q a w:=by
 simp only[qbN,Bool.and_eq_true,decide_eq_true_eq] at hB;obtain⟨⟨⟨a1,hn⟩,a0⟩,a3⟩:=hB;have a4:n<=l.length:=by simpa using hn
 have a2:(l.drop n).length=l.toArray.size-n:=by simp
 have inv0:HeadInv .any l.toArray n (Array.replicate l.toArray.size false):=
  ⟨by simp,fun j oj _ hl=>(by rw[getD_replicate_false] at hl;cases hl),fun t _ ht=>getD_in (by simpa using ht) (getD_replicate_false _ _)⟩
 have H:=q0P (P:=P) (md:=.any) (S:=S) (K:=wpList P l.toArray Q (l.drop n)) a1 a0 hQ (fun listed hl=>q6A hl) n t _ a w.drew inv0 a3 hS (h hS);refine wp_region_any hm ?_;have:=q3E (Q:=Q) (g:=l.toArray.size-n) (fun listed a' w' hL=>by
  have:=wpAny_of_seq (md:=.any) (Q':=Q) (l.drop n) n listed a' w' (fun j=>by simp [List.getElem?_drop]) (by rw[a2];exact hL.1) hL.2.2.2
  rwa [a2] at this) _ _ _ _ H
 rw[show n+(l.toArray.size-n)=l.toArray.size by simp;omega] at this;exact this
def qc9(ops:Array Oper)(n:Nat)(t u:Sch):Bool:=
 Region.noSelect ops && decide (n<=ops.size) && q5S .any ops n &&
  q29 .any ops n (fun listed=>q29 .any ops ops.size (fun l=>(Region.ready .any ops l).isEmpty) (ops.size-n) u listed && (Region.ready .any ops listed).all fun j=>decide (n<=j)) n t (Array.replicate ops.size false)
theorem q00{l:List Oper}{K:Act->World->Prop}{i:Nat}{t:Sch}{o:Oper}{v:Value}{a:Act}{w:World}(ho:l[i]?=some o)(hw:Region.wanted o (yielded l.toArray a.tmps)=true)
  (hy:∀w,S w->(execOp a.eval o).run P w=.ok (.value v) w) (h:q1p P l.toArray Q S K t (a.put o.dst v) w):q1p P l.toArray Q S K (.still i t) a w:=
 ⟨o,v,by rw[List.getElem?_toArray];exact ho,.inl ⟨hw,hy⟩,h⟩
def qam(p:Prop):Prop:=p
theorem qam.out{p:Prop}(h:qam p):p:=h
theorem q6B{l:List Oper}{K:Act->World->Prop}{i:Nat}{t:Sch}{o:Oper}{a:Act}{w:World}(ho:l[i]?=some o)(hw:Region.wanted o (yielded l.toArray a.tmps)=true)
  (h:∀K':Act->World->Prop,qam (∀a w,S w->(S w->q1p P l.toArray Q S K t a w)->K' a w)->o.wp P a w K' Q):wpOp P l.toArray Q i (fun a' w'=>S w'/\(S w'->q1p P l.toArray Q S K t a' w')) a w:=by
 unfold wpOp;rw[List.getElem?_toArray];simp only[ho,hw,if_true];exact .inl (Oper.wp_mono (fun a w h=>h) (h _ (fun a w h1 h2=>⟨h1,h2⟩)))
theorem q06{l:List Oper}{K:Act->World->Prop}{i:Nat}{t:Sch}{o:Oper}{a:Act}{w:World}(ho:l[i]?=some o)(hw:Region.wanted o (yielded l.toArray a.tmps)=true)
  (h:∀K':Act->World->Prop,qam (∀a w,S w->(S w->q1p P l.toArray Q S K t a w)->K' a w)->o.wp P a w K' Q):q1p P l.toArray Q S K (.one i t) a w:=q6B ho hw h
theorem q28{l:List Oper}{K:Act->World->Prop}{i j:Nat}{t u:Sch}{o p:Oper}{a:Act}{w:World}(ho:l[i]?=some o)(hw:Region.wanted o (yielded l.toArray a.tmps)=true)(hp:l[j]?=some p)(hx:Region.wanted p (yielded l.toArray a.tmps)=true)
  (h:∀K':Act->World->Prop,qam (∀a w,S w->(S w->q1p P l.toArray Q S K t a w)->K' a w)->o.wp P a w K' Q)
  (k:∀K':Act->World->Prop,qam (∀a w,S w->(S w->q1p P l.toArray Q S K u a w)->K' a w)->p.wp P a w K' Q):q1p P l.toArray Q S K (.two i t j u) a w:=⟨q6B ho hw h,q6B hp hx k⟩
theorem q0L{l:List Oper}{n:Nat}{a:Act}{w:World}(hn:l.drop n=[])(h:Q .normal a w):q1p P l.toArray Q S (wpList P l.toArray Q (l.drop n)) .done a w:=by
 show wpList P l.toArray Q (l.drop n) a w;rw[hn];exact h
theorem q0d{K:Act->World->Prop}{a:Act}{w:World}(h:K a w):q1p P ops Q S K .done a w:=h
end
end Go.Proofs.YtcdimmblnbkjjaaGreatDoor
