/- Lemmas. -/
import Derived.Test.YthopehoklmgphaaGreatDoorPartBT
import Derived.RangeFuncBox
set_option linter.all false
open Go renaming World.putObj_heap_other->qa,World->qb,World.putObj_heap_same->qd,World.alloc_heap_new->qe
open Option renaming some->qc,none->qf
namespace Go.Proofs.YthopehoklmgphaaGreatDoor
namespace Str
open Go Go.RowKit
def qeK{α:Type}(P:Program)(f:FuncId)(lb:Array Value)(enc:α->Array Value)(Kx:Nat->qb->qb->Prop)(Kb:qb->qb->Prop)(R Sp:List α->Prop)(S:List α->qb->Prop)(w:qb):Prop:=
 ∀(l:Nat) (J Jx:List α->qb->Prop) (W:qb),Below w.heap.size w W->(∀s A B,J s A->Kx W.heap.size A B->J s B)->(∀s A B,Jx s A->Kx W.heap.size A B->Jx s B) ->(∀pre x A,J pre A->R (pre++[x])->YieldAt Fence.wide 0 P l (enc x) A fun e B=>(e=.returned (.bool true)/\J (pre++[x]) B/\Kb A B/\KeepsFrom W.heap.size A B)\/(e=.returned (.bool false)/\Jx (pre++[x]) B/\KeepsFrom W.heap.size A B)) ->J [] W ->Calls P f (#[.func (.yield l) #[] #[]]++lb) W fun e B=>(∃v,e=.returned v)/\((∃xs,S xs B/\J xs B)\/∃pre,Sp pre/\Jx pre B)
def q1r(A B:qb):Prop:=A.heap.size=B.heap.size/\∀(k:Nat) (o:Obj),A.heap[k]?=qc o->o.isCells=true->B.heap[k]?=qc o
theorem q1r.put{A:qb}{l:Nat}{o:Obj}(o':Obj)(h:A.heap[l]?=qc o)(ho:o.isCells=false):q1r A (A.putObj l o'):=⟨by simp,fun k p hk hp=>by
  by_cases e:k=l
  ·subst e;rw[h] at hk;cases hk;rw[ho] at hp;cases hp
  ·exact(qa e).trans hk⟩
set_option maxHeartbeats 1000000 in
theorem q3N{α:Type}{P:Program}{g:Operand}{ps:Array Tmp}{assign body:Code}{Q:Exit->Act->qb->Prop}{a:Act}{w:qb}
  {gf:Nat} {lb:Array Value} (hg:a.eval g=.func (.func gf) #[] lb) (eg:∀args w,(callFunc gf args).run P w=.ok (.enter gf args) w)
  {enc:α->Array Value} {Kx:Nat->qb->qb->Prop} {Kb:qb->qb->Prop} {R Sp:List α->Prop} {S:List α->qb->Prop} (hseq:qeK P gf lb enc Kx Kb R Sp S w)
  (hKt:∀{A B C:qb},Kb A B->Kb B C->Kb A C) (hKb:∀(W:qb) (l:Nat) (o o':Obj),w.heap.size<=l->W.heap[l]?=qc o->o.isCells=false->Kb W (W.putObj l o'))
  (hKx:∀(A B:qb) (k:Nat) (o:Obj),Kx (w.heap.size+2) A B->k<w.heap.size+2->A.heap[k]?=qc o->o.isCells=false->B.heap[k]?=qc o)
  (hS:∀xs (W:qb) (l:Nat) (o o':Obj),S xs W->w.heap.size<=l->W.heap[l]?=qc o->o.isCells=false->S xs (W.putObj l o'))
  (hps:∀x,(enc x).size=ps.size)
  (I:List α->qb->Prop) (Ix:Code->List α->qb->Prop) (hI:OwnFrom w.heap.size I) (hIk:∀s A B,I s A->Kx (w.heap.size+2) A B->I s B) (hIx:∀c,OwnFrom w.heap.size (Ix c)) (hIxk:∀c s A B,Ix c s A->Kx (w.heap.size+2) A B->Ix c s B) (h0:I [] w)
  (hround:∀(l:Nat) (pre:List α) (x:α) (A:qb),I pre A->R (pre++[x]) ->assign.wpIn (Fence.wide.inRound l) 0 P (Exit.then (fun a' A'=>KeepsFrom w.heap.size A A'/\Kb A A'/\I pre A' /\∀B,I pre B->q1r A' B->body.wpIn (Fence.wide.inRound l) 0 P (ownPostG w.heap.size Kb I Ix (pre++[x]) B) a' B) (fun _ _ _=>False))
    {tmps:=(ps.zip (enc x)).foldl (fun t (p,v)=>t.setIfInBounds p v) a.tmps,defers:=[]} A)
  (hdone:∀(D:Nat) (xs:List α) (W:qb),w.heap.size<=D->S xs W->I xs W->W.heap[D]?=qc (.deferred (qc []))->Q .normal {a with defers:={target:=.collected D,args:=#[]}::a.defers} W)
  (hstop:∀(D:Nat) (c:Code) (pre:List α) (W:qb),w.heap.size<=D->Sp pre->Ix c pre W->W.heap[D]?=qc (.deferred (qc []))->c.wpIn Fence.wide 0 P Q {a with defers:={target:=.collected D,args:=#[]}::a.defers} W) :
  (Code.rangeFunc g ps assign body).wpIn Fence.wide 0 P Q a w:=by
 refine wpIn_rangeFunc ?_;intro fn U;obtain⟨b,q⟩:∃b:LoopState->Option Code->Loop,b=fun st pe=>{state:=st,pending:=pe,fn,tmps:=a.tmps,params:=ps,assign,body,defers:=w.heap.size}:=⟨_,rfl⟩
 obtain⟨n,H⟩:∃n,(w.alloc (.deferred (qc []))).alloc (.loop (b .ready qf))=n:=⟨_,rfl⟩;have V:n.heap[w.heap.size+1]?=qc (.loop (b .ready qf)):=by rw[<- H];have:=qe (w.alloc (.deferred (qc []))) (.loop (b .ready qf));rwa [World.size_alloc] at this
 have X:n.heap[w.heap.size]?=qc (.deferred (qc [])):=by rw[<- H];exact(Below.heap_alloc _ _ _ (by simp)).trans (qe w _)
 have Y:I [] n:=by rw[<- H];exact hI.alloc _ (hI.alloc _ h0)
 have Z:Below w.heap.size w n:=by rw[<- H];exact((Below.refl _ w).alloc lr _).alloc (by simp) _
 have N:n.heap.size=w.heap.size+2:=by rw[<- H];simp
 refine⟨w.heap.size+1,[{target:=.collected w.heap.size,args:=#[]}],n,{target:=.fn (.func gf) lb,args:=#[.func (.yield (w.heap.size+1)) #[] #[]]},n,gf,#[.func (.yield (w.heap.size+1)) #[] #[]]++lb,n,?_,?_,?_,?_,?_,?_⟩
 ·rw[<- H,q];exact run_enterLoop_outer _ _ _ _ _
 ·simp only[resolve,hg];simp [go_sem]
 ·intro f' _;trivial
 ·simp [invoke,go_sem,eg]
 ·intro h;cases h
 ·refine callsIn_wide.2 ?_;refine(hseq (w.heap.size+1)
   (fun pre W=>I pre W/\W.heap[w.heap.size+1]?=qc (.loop (b .ready qf))/\W.heap[w.heap.size]?=qc (.deferred (qc [])))
   (fun pre W=>∃c,Ix c pre W/\W.heap[w.heap.size+1]?=qc (.loop (b .done (qc c)))/\W.heap[w.heap.size]?=qc (.deferred (qc [])))
   n Z (fun s A B E hx=>by rw[N] at hx;exact⟨hIk s A B E.1 hx,hKx _ _ _ _ hx (by omega) E.2.1 rfl,hKx _ _ _ _ hx (by omega) E.2.2 rfl⟩) (fun s A B E hx=>by rw[N] at hx;obtain⟨c,L,O,h3⟩:=E;exact⟨c,hIxk c s A B L hx,hKx _ _ _ _ hx (by omega) O rfl,hKx _ _ _ _ hx (by omega) h3 rfl⟩) ?_ ⟨Y,V,X⟩).mono ?_
  ·
   rintro pre x W ⟨hi,d,F⟩ hR;have M:=run_yield (P:=P) (args:=enc x) d (by rw[q];exact hps x);rw[q] at M;refine⟨fn,_,assign,body,M,roundIn_of_wpIn U (wpIn_mono (hround (w.heap.size+1) pre x W hi hR) ?_)⟩;clear M;rintro e a' J i;cases e with
   | normal =>
    obtain⟨K,a1,a4,a0⟩:=i;replace d:=K.same _ _ (by omega) d rfl;replace F:=K.same _ _ lr F rfl;have a5:w.heap.size+1<J.heap.size:=(k09.1 d).1;refine⟨_,run_beginRound d (by rw[q]),?_⟩;have a6:(J.putObj (w.heap.size+1) (.loop {b .ready qf with state:=.busy})).heap[w.heap.size+1]?=qc (.loop {b .ready qf with state:=.busy}):=qd a5;have a7:(J.putObj (w.heap.size+1) (.loop {b .ready qf with state:=.busy})).heap[w.heap.size]?=qc (.deferred (qc [])):=(qa (by omega)).trans F;have a8:Kb J (J.putObj (w.heap.size+1) (.loop {b .ready qf with state:=.busy})):=hKb _ _ _ _ (by omega) d rfl;refine wpIn_mono (a0 _ (hI.putObj _ a4 (by omega) d rfl) (q1r.put _ d rfl)) ?_;have fin:∀(jump:Option Code) (j:qb),KeepsFrom w.heap.size (J.putObj (w.heap.size+1) (.loop {b .ready qf with state:=.busy})) j ->(Instr.endRound (w.heap.size+1) jump).run P j=.ok (.bool jump.isNone) (j.putObj (w.heap.size+1) (.loop (b (if jump.isNone then .ready else .done) jump))) /\j.heap[w.heap.size+1]?=qc (.loop {b .ready qf with state:=.busy}) /\(j.putObj (w.heap.size+1) (.loop (b (if jump.isNone then .ready else .done) jump))).heap[w.heap.size+1]?=qc (.loop (b (if jump.isNone then .ready else .done) jump)) /\(j.putObj (w.heap.size+1) (.loop (b (if jump.isNone then .ready else .done) jump))).heap[w.heap.size]?=qc (.deferred (qc [])) /\KeepsFrom n.heap.size W (j.putObj (w.heap.size+1) (.loop (b (if jump.isNone then .ready else .done) jump))):=fun jump j m=>by
     have f:=m.same _ _ (by omega) a6 rfl;have:=run_endRound (P:=P) jump f;rw[q] at this ⊢;refine⟨this,by rw[q] at f;exact f,qd (k09.1 f).1,(qa (by omega)).trans (m.same _ _ lr a7 rfl),?_,?_⟩
     ·have L:=m.size;have O:=K.size;simp at L ⊢;omega
     ·intro k o b0 ho T;rw[qa (by omega)];refine m.same k o (by omega) ?_ T;rw[qa (by omega)];exact K.same k o (by omega) ho T
    rintro e a3 j i;cases e with
    | normal =>obtain⟨m,a2,r⟩:=i;obtain⟨G,f,u,y,z⟩:=fin qf j m;exact⟨_,_,G,.inl ⟨rfl,⟨hI.putObj _ r (by omega) f rfl,u,y⟩,hKt a1 (hKt (hKt a8 a2) (hKb _ _ _ _ (by omega) f rfl)),z⟩⟩
    | ret =>obtain⟨m,r⟩:=i;obtain⟨G,f,u,y,z⟩:=fin (qc .ret) j m;exact⟨_,_,G,.inr ⟨rfl,⟨.ret,(hIx _).putObj _ r (by omega) f rfl,u,y⟩,z⟩⟩
    | exit id =>obtain⟨m,r⟩:=i;obtain⟨G,f,u,y,z⟩:=fin (qc (.exit id)) j m;exact⟨_,_,G,.inr ⟨rfl,⟨.exit id,(hIx _).putObj _ r (by omega) f rfl,u,y⟩,z⟩⟩
    | goto t =>obtain⟨m,r⟩:=i;obtain⟨G,f,u,y,z⟩:=fin (qc (.goto t)) j m;exact⟨_,_,G,.inr ⟨rfl,⟨.goto t,(hIx _).putObj _ r (by omega) f rfl,u,y⟩,z⟩⟩
    | panic ch=>exact i.elim
    | outgrown=>exact i.elim
   | ret=>exact i.elim
   | exit id=>exact i.elim
   | goto t=>exact i.elim
   | panic ch=>exact i.elim
   | outgrown=>exact i.elim
  ·
   rintro e W2 ⟨⟨v,rfl⟩,(⟨xs,E,hi,d,F⟩|⟨pre,a9,c,hi,d,F⟩)⟩
   ·exact⟨qf,_,by have:=run_endLoop (P:=P) d (by rw[q];simp);rw[q] at this;exact this,hdone _ xs _ lr (hS _ _ _ _ _ E (by omega) d rfl) (hI.putObj _ hi (by omega) d rfl) ((qa (by omega)).trans F)⟩
   ·exact⟨qc c,_,by have:=run_endLoop (P:=P) d (by rw[q];simp);rw[q] at this;exact this,hstop _ c pre _ lr a9 ((hIx c).putObj _ hi (by omega) d rfl) ((qa (by omega)).trans F)⟩
end Str
end Go.Proofs.YthopehoklmgphaaGreatDoor
