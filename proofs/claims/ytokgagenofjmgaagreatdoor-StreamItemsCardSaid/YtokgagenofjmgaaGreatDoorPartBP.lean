/- Lemmas. -/
import Derived.Test.YtokgagenofjmgaaGreatDoorPartBO
import Derived.RangeFuncNested
set_option linter.all false
set_option maxHeartbeats 1000000
open Go renaming World.putObj_heap_other->qa,World->qb,World.putObj_heap_same->qd,World.alloc_heap_new->qe
open Option renaming some->qc,none->qf
namespace Go.Proofs.YtokgagenofjmgaaGreatDoor
variable{α:Type}{P:Program}{assign body:Code}{Q:Exit->Act->qb->Prop}{a:Act}{w:qb}
namespace Str
open Go Go.RowKit
theorem q3O{g:Operand}{ps:Array Tmp}
  {gf:Nat} {lb:Array Value} (hg:a.eval g=.func (.func gf) #[] lb) (eg:∀args w,(callFunc gf args).run P w=.ok (.enter gf args) w)
  {enc:α->Array Value} {Kx:Nat->qb->qb->Prop} {Kb:qb->qb->Prop} {R Sp:List α->Prop} {S:List α->qb->Prop} (hseq:qe2 P gf lb enc Kx Kb R Sp S w)
  (hKt:∀{A B C:qb},Kb A B->Kb B C->Kb A C) (hKb:∀(W:qb) (l:Nat) (o o':Obj),w.heap.size<=l->W.heap[l]?=qc o->o.isCells=false->Kb W (W.putObj l o'))
  (hKx:∀(A B:qb) (k:Nat) (o:Obj),Kx (w.heap.size+2) A B->k<w.heap.size+2->A.heap[k]?=qc o->o.isCells=false->B.heap[k]?=qc o)
  (hS:∀xs (W:qb) (l:Nat) (o o':Obj),S xs W->w.heap.size<=l->W.heap[l]?=qc o->o.isCells=false->S xs (W.putObj l o'))
  (hps:∀x,(enc x).size=ps.size)
  (I:List α->qb->Prop) (Ix:Code->List α->qb->Prop) (hI:OwnFrom w.heap.size I) (hIk:∀s A B,I s A->Kx (w.heap.size+2) A B->I s B) (hIx:∀c,OwnFrom w.heap.size (Ix c)) (hIxk:∀c s A B,Ix c s A->Kx (w.heap.size+2) A B->Ix c s B) (h0:I [] w)
  (hround:∀(l:Nat) (pre:List α) (x:α) (A:qb),w.heap.size<=l->I pre A->R (pre++[x]) ->assign.wpIn (Fence.wide.inRound l) 0 P (Exit.then (fun a' A'=>KeepsFrom w.heap.size A A'/\Kb A A'/\I pre A' /\∀B,I pre B->q0X A' B->(∃r,B.heap[l]?=qc (.loop r))->body.wpIn (Fence.wide.inRound l) 0 P (ownPostG w.heap.size Kb I Ix (pre++[x]) B) a' B) (fun _ _ _=>False))
    {tmps:=(ps.zip (enc x)).foldl (fun t (p,v)=>t.setIfInBounds p v) a.tmps,defers:=[]} A)
  (hdone:∀(D:Nat) (xs:List α) (W:qb),w.heap.size<=D->S xs W->I xs W->W.heap[D]?=qc (.deferred (qc []))->Q .normal {a with defers:={target:=.collected D,args:=#[]}::a.defers} W)
  (hstop:∀(D:Nat) (c:Code) (pre:List α) (W:qb),w.heap.size<=D->Sp pre->Ix c pre W->W.heap[D]?=qc (.deferred (qc []))->c.wpIn Fence.wide 0 P Q {a with defers:={target:=.collected D,args:=#[]}::a.defers} W) :
  (Code.rangeFunc g ps assign body).wpIn Fence.wide 0 P Q a w:=by
 refine wpIn_rangeFunc ?_;intro fn X;obtain⟨b,q⟩:∃b:LoopState->Option Code->Loop,b=fun st pe=>{state:=st,pending:=pe,fn,tmps:=a.tmps,params:=ps,assign,body,defers:=w.heap.size}:=⟨_,rfl⟩
 obtain⟨n,J⟩:∃n,(w.alloc (.deferred (qc []))).alloc (.loop (b .ready qf))=n:=⟨_,rfl⟩;have Y:n.heap[w.heap.size+1]?=qc (.loop (b .ready qf)):=by rw[<- J];have:=qe (w.alloc (.deferred (qc []))) (.loop (b .ready qf));rwa [World.size_alloc] at this
 have Z:n.heap[w.heap.size]?=qc (.deferred (qc [])):=by rw[<- J];exact(Below.heap_alloc _ _ _ (by simp)).trans (qe w _)
 have a4:I [] n:=by rw[<- J];exact hI.alloc _ (hI.alloc _ h0)
 have a5:Below w.heap.size w n:=by rw[<- J];exact((Below.refl _ w).alloc lr _).alloc (by simp) _
 have O:n.heap.size=w.heap.size+2:=by rw[<- J];simp
 refine⟨w.heap.size+1,[{target:=.collected w.heap.size,args:=#[]}],n,{target:=.fn (.func gf) lb,args:=#[.func (.yield (w.heap.size+1)) #[] #[]]},n,gf,#[.func (.yield (w.heap.size+1)) #[] #[]]++lb,n,?_,?_,?_,?_,?_,?_⟩
 ·rw[<- J,q];exact run_enterLoop_outer _ _ _ _ _
 ·simp only[resolve,hg];simp [go_sem]
 ·intro f' _;trivial
 ·simp [invoke,go_sem,eg]
 ·intro h;cases h
 ·refine callsIn_wide.2 ?_;refine(hseq (w.heap.size+1)
   (fun pre W=>I pre W/\W.heap[w.heap.size+1]?=qc (.loop (b .ready qf))/\W.heap[w.heap.size]?=qc (.deferred (qc [])))
   (fun pre W=>∃c,Ix c pre W/\W.heap[w.heap.size+1]?=qc (.loop (b .done (qc c)))/\W.heap[w.heap.size]?=qc (.deferred (qc [])))
   n a5 (fun s A B F hx=>by rw[O] at hx;exact⟨hIk s A B F.1 hx,hKx _ _ _ _ hx (by omega) F.2.1 rfl,hKx _ _ _ _ hx (by omega) F.2.2 rfl⟩) (fun s A B F hx=>by rw[O] at hx;obtain⟨c,M,U,h3⟩:=F;exact⟨c,hIxk c s A B M hx,hKx _ _ _ _ hx (by omega) U rfl,hKx _ _ _ _ hx (by omega) h3 rfl⟩) ?_ ⟨a4,Y,Z⟩).mono ?_
  ·
   rintro pre x W ⟨hi,d,G⟩ hR;have N:=run_yield (P:=P) (args:=enc x) d (by rw[q];exact hps x);rw[q] at N;refine⟨fn,_,assign,body,N,roundIn_of_wpIn X (wpIn_mono (hround (w.heap.size+1) pre x W (by omega) hi hR) ?_)⟩;clear N;rintro e a' K i;cases e with
   | normal =>
    obtain⟨L,a1,a6,a0⟩:=i;replace d:=L.same _ _ (by omega) d rfl;replace G:=L.same _ _ lr G rfl;have a7:w.heap.size+1<K.heap.size:=(k0a.1 d).1;refine⟨_,run_beginRound d (by rw[q]),?_⟩;have T:(K.putObj (w.heap.size+1) (.loop {b .ready qf with state:=.busy})).heap[w.heap.size+1]?=qc (.loop {b .ready qf with state:=.busy}):=qd a7;have a8:(K.putObj (w.heap.size+1) (.loop {b .ready qf with state:=.busy})).heap[w.heap.size]?=qc (.deferred (qc [])):=(qa (by omega)).trans G;have a9:Kb K (K.putObj (w.heap.size+1) (.loop {b .ready qf with state:=.busy})):=hKb _ _ _ _ (by omega) d rfl;refine wpIn_mono (a0 _ (hI.putObj _ a6 (by omega) d rfl) (q0X.put _ d rfl) ⟨_,T⟩) ?_;have fin:∀(jump:Option Code) (j:qb),KeepsFrom w.heap.size (K.putObj (w.heap.size+1) (.loop {b .ready qf with state:=.busy})) j ->(Instr.endRound (w.heap.size+1) jump).run P j=.ok (.bool jump.isNone) (j.putObj (w.heap.size+1) (.loop (b (if jump.isNone then .ready else .done) jump))) /\j.heap[w.heap.size+1]?=qc (.loop {b .ready qf with state:=.busy}) /\(j.putObj (w.heap.size+1) (.loop (b (if jump.isNone then .ready else .done) jump))).heap[w.heap.size+1]?=qc (.loop (b (if jump.isNone then .ready else .done) jump)) /\(j.putObj (w.heap.size+1) (.loop (b (if jump.isNone then .ready else .done) jump))).heap[w.heap.size]?=qc (.deferred (qc [])) /\KeepsFrom n.heap.size W (j.putObj (w.heap.size+1) (.loop (b (if jump.isNone then .ready else .done) jump))):=fun jump j m=>by
     have f:=m.same _ _ (by omega) T rfl;have:=run_endRound (P:=P) jump f;rw[q] at this ⊢;refine⟨this,by rw[q] at f;exact f,qd (k0a.1 f).1,(qa (by omega)).trans (m.same _ _ lr a8 rfl),?_,?_⟩
     ·have M:=m.size;have U:=L.size;simp at M ⊢;omega
     ·intro k o b1 ho V;rw[qa (by omega)];refine m.same k o (by omega) ?_ V;rw[qa (by omega)];exact L.same k o (by omega) ho V
    rintro e a3 j i;cases e with
    | normal =>obtain⟨m,a2,u⟩:=i;obtain⟨H,f,y,z,E⟩:=fin qf j m;exact⟨_,_,H,.inl ⟨rfl,⟨hI.putObj _ u (by omega) f rfl,y,z⟩,hKt a1 (hKt (hKt a9 a2) (hKb _ _ _ _ (by omega) f rfl)),E⟩⟩
    | ret =>obtain⟨m,u⟩:=i;obtain⟨H,f,y,z,E⟩:=fin (qc .ret) j m;exact⟨_,_,H,.inr ⟨rfl,⟨.ret,(hIx _).putObj _ u (by omega) f rfl,y,z⟩,E⟩⟩
    | exit id =>obtain⟨m,u⟩:=i;obtain⟨H,f,y,z,E⟩:=fin (qc (.exit id)) j m;exact⟨_,_,H,.inr ⟨rfl,⟨.exit id,(hIx _).putObj _ u (by omega) f rfl,y,z⟩,E⟩⟩
    | goto t =>obtain⟨m,u⟩:=i;obtain⟨H,f,y,z,E⟩:=fin (qc (.goto t)) j m;exact⟨_,_,H,.inr ⟨rfl,⟨.goto t,(hIx _).putObj _ u (by omega) f rfl,y,z⟩,E⟩⟩
    | panic ch=>exact i.elim
    | outgrown=>exact i.elim
   | ret=>exact i.elim
   | exit id=>exact i.elim
   | goto t=>exact i.elim
   | panic ch=>exact i.elim
   | outgrown=>exact i.elim
  ·
   rintro e W2 ⟨⟨v,rfl⟩,(⟨xs,F,hi,d,G⟩|⟨pre,b0,c,hi,d,G⟩)⟩
   ·exact⟨qf,_,by have:=run_endLoop (P:=P) d (by rw[q];simp);rw[q] at this;exact this,hdone _ xs _ lr (hS _ _ _ _ _ F (by omega) d rfl) (hI.putObj _ hi (by omega) d rfl) ((qa (by omega)).trans G)⟩
   ·exact⟨qc c,_,by have:=run_endLoop (P:=P) d (by rw[q];simp);rw[q] at this;exact this,hstop _ c pre _ lr b0 ((hIx c).putObj _ hi (by omega) d rfl) ((qa (by omega)).trans G)⟩
theorem q3N{g:Operand}{ps:Array Tmp}
  {l₀:Nat} {r₀:Loop} (hl₀:w.heap[l₀]?=qc (.loop r₀))
  {gf:Nat} {lb:Array Value} (hg:a.eval g=.func (.func gf) #[] lb) (eg:∀args w,(callFunc gf args).run P w=.ok (.enter gf args) w)
  {enc:α->Array Value} {Kx:Nat->qb->qb->Prop} {Kb:qb->qb->Prop} {R Sp:List α->Prop} {S:List α->qb->Prop} (hseq:qe2 P gf lb enc Kx Kb R Sp S w)
  (hKt:∀{A B C:qb},Kb A B->Kb B C->Kb A C) (hKb:∀(W:qb) (l:Nat) (o o':Obj),w.heap.size<=l->W.heap[l]?=qc o->o.isCells=false->Kb W (W.putObj l o'))
  (hKx:∀(A B:qb) (k:Nat) (o:Obj),Kx (w.heap.size+1) A B->k<w.heap.size+1->A.heap[k]?=qc o->o.isCells=false->B.heap[k]?=qc o)
  (hS:∀xs (W:qb) (l:Nat) (o o':Obj),S xs W->w.heap.size<=l->W.heap[l]?=qc o->o.isCells=false->S xs (W.putObj l o'))
  (hps:∀x,(enc x).size=ps.size)
  (I:List α->qb->Prop) (Ix:Code->List α->qb->Prop) (hI:OwnFrom w.heap.size I) (hIk:∀s A B,I s A->Kx (w.heap.size+1) A B->I s B) (hIx:∀c,OwnFrom w.heap.size (Ix c)) (hIxk:∀c s A B,Ix c s A->Kx (w.heap.size+1) A B->Ix c s B) (h0:I [] w)
  (hround:∀(l:Nat) (pre:List α) (x:α) (A:qb),I pre A->R (pre++[x]) ->assign.wpIn (Fence.wide.inRound l) 0 P (Exit.then (fun a' A'=>KeepsFrom w.heap.size A A'/\Kb A A'/\I pre A' /\∀B,I pre B->q0X A' B->body.wpIn (Fence.wide.inRound l) 0 P (ownPostG w.heap.size Kb I Ix (pre++[x]) B) a' B) (fun _ _ _=>False))
    {tmps:=(ps.zip (enc x)).foldl (fun t (p,v)=>t.setIfInBounds p v) a.tmps,defers:=[]} A)
  (hdone:∀(xs:List α) (W:qb),S xs W->I xs W->Q .normal a W)
  (hstop:∀(c:Code) (pre:List α) (W:qb),Sp pre->Ix c pre W->c.wpIn (Fence.wide.inRound l₀) 0 P Q a W) :
  (Code.rangeFunc g ps assign body).wpIn (Fence.wide.inRound l₀) 0 P Q a w:=by
 refine wpIn_rangeFunc ?_;intro fn N;obtain⟨b,q⟩:∃b:LoopState->Option Code->Loop,b=fun st pe=>{state:=st,pending:=pe,fn,tmps:=a.tmps,params:=ps,assign,body,defers:=r₀.defers}:=⟨_,rfl⟩
 obtain⟨n,E⟩:∃n,w.alloc (.loop (b .ready qf))=n:=⟨_,rfl⟩;have O:n.heap[w.heap.size]?=qc (.loop (b .ready qf)):=by rw[<- E];exact qe w _
 have T:I [] n:=by rw[<- E];exact hI.alloc _ h0
 have U:Below w.heap.size w n:=by rw[<- E];exact(Below.refl _ w).alloc lr _
 have K:n.heap.size=w.heap.size+1:=by rw[<- E];simp
 refine⟨w.heap.size,[],n,{target:=.fn (.func gf) lb,args:=#[.func (.yield w.heap.size) #[] #[]]},n,gf,#[.func (.yield w.heap.size) #[] #[]]++lb,n,?_,?_,?_,?_,?_,?_⟩
 ·rw[<- E,q];exact run_enterLoop_inner hl₀ _ _ _ _ _
 ·simp only[resolve,hg];simp [go_sem]
 ·intro f' _;trivial
 ·simp [invoke,go_sem,eg]
 ·intro h;cases h
 ·refine CallsIn.inRound l₀ ?_;refine callsIn_wide.2 ?_;refine(hseq (w.heap.size)
   (fun pre W=>I pre W/\W.heap[w.heap.size]?=qc (.loop (b .ready qf)))
   (fun pre W=>∃c,Ix c pre W/\W.heap[w.heap.size]?=qc (.loop (b .done (qc c))))
   n U (fun s A B D hx=>by rw[K] at hx;exact⟨hIk s A B D.1 hx,hKx _ _ _ _ hx (by omega) D.2 rfl⟩) (fun s A B D hx=>by rw[K] at hx;obtain⟨c,H,L⟩:=D;exact⟨c,hIxk c s A B H hx,hKx _ _ _ _ hx (by omega) L rfl⟩) ?_ ⟨T,O⟩).mono ?_
  ·
   rintro pre x W ⟨hi,d⟩ hR;have J:=run_yield (P:=P) (args:=enc x) d (by rw[q];exact hps x);rw[q] at J;refine⟨fn,_,assign,body,J,roundIn_of_wpIn N (wpIn_mono (hround (w.heap.size) pre x W hi hR) ?_)⟩;clear J;rintro e a' F i;cases e with
   | normal =>
    obtain⟨G,V,X,Y⟩:=i;replace d:=G.same _ _ (by omega) d rfl;have Z:w.heap.size<F.heap.size:=(k0a.1 d).1;refine⟨_,run_beginRound d (by rw[q]),?_⟩;have a1:(F.putObj (w.heap.size) (.loop {b .ready qf with state:=.busy})).heap[w.heap.size]?=qc (.loop {b .ready qf with state:=.busy}):=qd Z;have a2:Kb F (F.putObj (w.heap.size) (.loop {b .ready qf with state:=.busy})):=hKb _ _ _ _ (by omega) d rfl;refine wpIn_mono (Y _ (hI.putObj _ X (by omega) d rfl) (q0X.put _ d rfl)) ?_;have fin:∀(jump:Option Code) (j:qb),KeepsFrom w.heap.size (F.putObj (w.heap.size) (.loop {b .ready qf with state:=.busy})) j ->(Instr.endRound (w.heap.size) jump).run P j=.ok (.bool jump.isNone) (j.putObj (w.heap.size) (.loop (b (if jump.isNone then .ready else .done) jump))) /\j.heap[w.heap.size]?=qc (.loop {b .ready qf with state:=.busy}) /\(j.putObj (w.heap.size) (.loop (b (if jump.isNone then .ready else .done) jump))).heap[w.heap.size]?=qc (.loop (b (if jump.isNone then .ready else .done) jump)) /\KeepsFrom n.heap.size W (j.putObj (w.heap.size) (.loop (b (if jump.isNone then .ready else .done) jump))):=fun jump j m=>by
     have f:=m.same _ _ (by omega) a1 rfl;have:=run_endRound (P:=P) jump f;rw[q] at this ⊢;refine⟨this,by rw[q] at f;exact f,qd (k0a.1 f).1,?_,?_⟩
     ·have H:=m.size;have L:=G.size;simp at H ⊢;omega
     ·intro k o a5 ho M;rw[qa (by omega)];refine m.same k o (by omega) ?_ M;rw[qa (by omega)];exact G.same k o (by omega) ho M
    rintro e a3 j i;cases e with
    | normal =>obtain⟨m,a0,r⟩:=i;obtain⟨z,f,u,y⟩:=fin qf j m;exact⟨_,_,z,.inl ⟨rfl,⟨hI.putObj _ r (by omega) f rfl,u⟩,hKt V (hKt (hKt a2 a0) (hKb _ _ _ _ (by omega) f rfl)),y⟩⟩
    | ret =>obtain⟨m,r⟩:=i;obtain⟨z,f,u,y⟩:=fin (qc .ret) j m;exact⟨_,_,z,.inr ⟨rfl,⟨.ret,(hIx _).putObj _ r (by omega) f rfl,u⟩,y⟩⟩
    | exit id =>obtain⟨m,r⟩:=i;obtain⟨z,f,u,y⟩:=fin (qc (.exit id)) j m;exact⟨_,_,z,.inr ⟨rfl,⟨.exit id,(hIx _).putObj _ r (by omega) f rfl,u⟩,y⟩⟩
    | goto t =>obtain⟨m,r⟩:=i;obtain⟨z,f,u,y⟩:=fin (qc (.goto t)) j m;exact⟨_,_,z,.inr ⟨rfl,⟨.goto t,(hIx _).putObj _ r (by omega) f rfl,u⟩,y⟩⟩
    | panic ch=>exact i.elim
    | outgrown=>exact i.elim
   | ret=>exact i.elim
   | exit id=>exact i.elim
   | goto t=>exact i.elim
   | panic ch=>exact i.elim
   | outgrown=>exact i.elim
  ·
   rintro e W2 ⟨⟨v,rfl⟩,(⟨xs,D,hi,d⟩|⟨pre,a4,c,hi,d⟩)⟩
   ·exact⟨qf,_,by have:=run_endLoop (P:=P) d (by rw[q];simp);rw[q] at this;exact this,hdone xs _ (hS _ _ _ _ _ D (by omega) d rfl) (hI.putObj _ hi (by omega) d rfl)⟩
   ·exact⟨qc c,_,by have:=run_endLoop (P:=P) d (by rw[q];simp);rw[q] at this;exact this,hstop c pre _ a4 ((hIx c).putObj _ hi (by omega) d rfl)⟩
end Str
end Go.Proofs.YtokgagenofjmgaaGreatDoor
