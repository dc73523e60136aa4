/- Lemmas. -/
import Derived.Test.YtcdimmblnbkjjaaGreatDoorPartBK
import Derived.RangeFuncBox
import Derived.RangeFuncWrites
import Derived.RangeFuncLeaves
set_option linter.all false
namespace Go.Proofs.YtcdimmblnbkjjaaGreatDoor.Str
open Go Go.RowKit
def qc0{α:Type}(P:Program)(f:FuncId)(lb:Array Value)(enc:α->Array Value)(Kx:Nat->World->World->Prop)(Kb:World->World->Prop)(R Sp:List α->Prop)(S:List α->World->Prop)(w:World):Prop:=
 ∀(l:Nat) (J Jx:List α->World->Prop) (W:World),Below w.heap.size w W->(∀s A B,J s A->Kx W.heap.size A B->J s B)->(∀s A B,Jx s A->Kx W.heap.size A B->Jx s B) ->
  (∀pre x A,J pre A->R (pre++[x])->YieldAt Fence.wide 0 P l (enc x) A fun e B=>(e=.returned (.bool true)/\J (pre++[x]) B/\Kb A B/\KeepsFrom W.heap.size A B)\/(e=.returned (.bool false)/\Jx (pre++[x]) B/\KeepsFrom W.heap.size A B)) ->
  J [] W ->
  Calls P f (#[.func (.yield l) #[] #[]]++lb) W fun e B=>(∃v,e=.returned v)/\((∃xs,S xs B/\J xs B)\/∃pre,Sp pre/\Jx pre B)
def q0W(A B:World):Prop:=A.heap.size=B.heap.size/\∀(k:Nat) (o:Obj),A.heap[k]?=some o->o.isCells=true->B.heap[k]?=some o
theorem q0W.put{A:World}{l:Nat}{o:Obj}(o':Obj)(h:A.heap[l]?=some o)(ho:o.isCells=false):q0W A (A.putObj l o'):=
 ⟨by simp,fun k p hk hp=>by
  by_cases e:k=l
  ·subst e;rw[h] at hk;cases hk;rw[ho] at hp;cases hp
  ·exact(World.putObj_heap_other e).trans hk⟩
set_option maxHeartbeats 1000000 in
theorem q1H{α:Type}{P:Program}{g:Operand}{ps:Array Tmp}{assign body:Code}{Q:Exit->Act->World->Prop}{a:Act}{w:World}
  {gf:Nat} {lb:Array Value} (hg:a.eval g=.func (.func gf) #[] lb) (eg:∀args w,(callFunc gf args).run P w=.ok (.enter gf args) w)
  {enc:α->Array Value} {Kx:Nat->World->World->Prop} {Kb:World->World->Prop} {R Sp:List α->Prop} {S:List α->World->Prop} (hseq:qc0 P gf lb enc Kx Kb R Sp S w)
  (hKt:∀{A B C:World},Kb A B->Kb B C->Kb A C) (hKb:∀(W:World) (l:Nat) (o o':Obj),w.heap.size<=l->W.heap[l]?=some o->o.isCells=false->Kb W (W.putObj l o'))
  (hKx:∀(A B:World) (k:Nat) (o:Obj),Kx (w.heap.size+2) A B->k<w.heap.size+2->A.heap[k]?=some o->o.isCells=false->B.heap[k]?=some o)
  (hS:∀xs (W:World) (l:Nat) (o o':Obj),S xs W->w.heap.size<=l->W.heap[l]?=some o->o.isCells=false->S xs (W.putObj l o'))
  (hps:∀x,(enc x).size=ps.size)
  (I:List α->World->Prop) (Ix:Code->List α->World->Prop) (hI:OwnFrom w.heap.size I) (hIk:∀s A B,I s A->Kx (w.heap.size+2) A B->I s B) (hIx:∀c,OwnFrom w.heap.size (Ix c)) (hIxk:∀c s A B,Ix c s A->Kx (w.heap.size+2) A B->Ix c s B) (h0:I [] w)
  (hround:∀(l:Nat) (pre:List α) (x:α) (A:World),I pre A->R (pre++[x]) ->
   assign.wpIn (Fence.wide.inRound l) 0 P (Exit.then (fun a' A'=>KeepsFrom w.heap.size A A'/\Kb A A'/\I pre A' /\
    ∀B,I pre B->q0W A' B->body.wpIn (Fence.wide.inRound l) 0 P (ownPostG w.heap.size Kb I Ix (pre++[x]) B) a' B) (fun _ _ _=>False))
    {tmps:=(ps.zip (enc x)).foldl (fun t (p,v)=>t.setIfInBounds p v) a.tmps,defers:=[]} A)
  (hdone:∀(D:Nat) (xs:List α) (W:World),w.heap.size<=D->S xs W->I xs W->W.heap[D]?=some (.deferred (some []))->Q .normal {a with defers:={target:=.collected D,args:=#[]}::a.defers} W)
  (hstop:∀(D:Nat) (c:Code) (pre:List α) (W:World),w.heap.size<=D->Sp pre->Ix c pre W->W.heap[D]?=some (.deferred (some []))->c.wpIn Fence.wide 0 P Q {a with defers:={target:=.collected D,args:=#[]}::a.defers} W) :
  (Code.rangeFunc g ps assign body).wpIn Fence.wide 0 P Q a w:=by
 refine wpIn_rangeFunc ?_;intro fn b4;obtain⟨rec,a0⟩:∃rec:LoopState->Option Code->Loop,rec=fun st pe=>{state:=st,pending:=pe,fn,tmps:=a.tmps,params:=ps,assign,body,defers:=w.heap.size}:=⟨_,rfl⟩
 obtain⟨W1,a9⟩:∃W1,(w.alloc (.deferred (some []))).alloc (.loop (rec .ready none))=W1:=⟨_,rfl⟩;have b5:W1.heap[w.heap.size+1]?=some (.loop (rec .ready none)):=by
  rw[<- a9];have:=World.alloc_heap_new (w.alloc (.deferred (some []))) (.loop (rec .ready none));rwa [World.size_alloc] at this
 have b6:W1.heap[w.heap.size]?=some (.deferred (some [])):=by
  rw[<- a9];exact(Below.heap_alloc _ _ _ (by simp)).trans (World.alloc_heap_new w _)
 have b7:I [] W1:=by rw[<- a9];exact hI.alloc _ (hI.alloc _ h0)
 have b8:Below w.heap.size w W1:=by rw[<- a9];exact((Below.refl _ w).alloc lr _).alloc (by simp) _
 have b3:W1.heap.size=w.heap.size+2:=by rw[<- a9];simp
 refine⟨w.heap.size+1,[{target:=.collected w.heap.size,args:=#[]}],W1,{target:=.fn (.func gf) lb,args:=#[.func (.yield (w.heap.size+1)) #[] #[]]},W1,gf,
  #[.func (.yield (w.heap.size+1)) #[] #[]]++lb,W1,?_,?_,?_,?_,?_,?_⟩
 ·rw[<- a9,a0];exact run_enterLoop_outer _ _ _ _ _
 ·simp only[resolve,hg];simp [go_sem]
 ·intro f' _;trivial
 ·simp [invoke,go_sem,eg]
 ·intro h;cases h
 ·refine callsIn_wide.2 ?_;refine(hseq (w.heap.size+1)
   (fun pre W=>I pre W/\W.heap[w.heap.size+1]?=some (.loop (rec .ready none))/\W.heap[w.heap.size]?=some (.deferred (some [])))
   (fun pre W=>∃c,Ix c pre W/\W.heap[w.heap.size+1]?=some (.loop (rec .done (some c)))/\W.heap[w.heap.size]?=some (.deferred (some [])))
   W1 b8 (fun s A B hs hx=>by rw[b3] at hx;exact⟨hIk s A B hs.1 hx,hKx _ _ _ _ hx (by omega) hs.2.1 rfl,hKx _ _ _ _ hx (by omega) hs.2.2 rfl⟩) (fun s A B hs hx=>by rw[b3] at hx;obtain⟨c,h1,h2,h3⟩:=hs;exact⟨c,hIxk c s A B h1 hx,hKx _ _ _ _ hx (by omega) h2 rfl,hKx _ _ _ _ hx (by omega) h3 rfl⟩) ?_ ⟨b7,b5,b6⟩).mono ?_
  ·
   rintro pre x W ⟨hi,hl,hk⟩ hR;have hy:=run_yield (P:=P) (args:=enc x) hl (by rw[a0];exact hps x);rw[a0] at hy;refine⟨fn,_,assign,body,hy,roundIn_of_wpIn b4 (wpIn_mono (hround (w.heap.size+1) pre x W hi hR) ?_)⟩;clear hy;rintro e a' Wa hp;cases e with
   | normal =>
    obtain⟨a4,b1,b9,b0⟩:=hp;replace hl:=a4.same _ _ (by omega) hl rfl;replace hk:=a4.same _ _ lr hk rfl;have c0:w.heap.size+1<Wa.heap.size:=(Array.getElem?_eq_some_iff.1 hl).1;refine⟨_,run_beginRound hl (by rw[a0]),?_⟩;have c1:(Wa.putObj (w.heap.size+1) (.loop {rec .ready none with state:=.busy})).heap[w.heap.size+1]?=some (.loop {rec .ready none with state:=.busy}):=World.putObj_heap_same c0;have c2:(Wa.putObj (w.heap.size+1) (.loop {rec .ready none with state:=.busy})).heap[w.heap.size]?=some (.deferred (some [])):=(World.putObj_heap_other (by omega)).trans hk;have c3:Kb Wa (Wa.putObj (w.heap.size+1) (.loop {rec .ready none with state:=.busy})):=hKb _ _ _ _ (by omega) hl rfl;refine wpIn_mono (b0 _ (hI.putObj _ b9 (by omega) hl rfl) (q0W.put _ hl rfl)) ?_;have fin:∀(jump:Option Code) (W3:World),KeepsFrom w.heap.size (Wa.putObj (w.heap.size+1) (.loop {rec .ready none with state:=.busy})) W3 ->
      (Instr.endRound (w.heap.size+1) jump).run P W3=.ok (.bool jump.isNone) (W3.putObj (w.heap.size+1) (.loop (rec (if jump.isNone then .ready else .done) jump))) /\
      W3.heap[w.heap.size+1]?=some (.loop {rec .ready none with state:=.busy}) /\
      (W3.putObj (w.heap.size+1) (.loop (rec (if jump.isNone then .ready else .done) jump))).heap[w.heap.size+1]?=some (.loop (rec (if jump.isNone then .ready else .done) jump)) /\
      (W3.putObj (w.heap.size+1) (.loop (rec (if jump.isNone then .ready else .done) jump))).heap[w.heap.size]?=some (.deferred (some [])) /\
      KeepsFrom W1.heap.size W (W3.putObj (w.heap.size+1) (.loop (rec (if jump.isNone then .ready else .done) jump))):=fun jump W3 a2=>by
     have a1:=a2.same _ _ (by omega) c1 rfl;have:=run_endRound (P:=P) jump a1;rw[a0] at this ⊢;refine⟨this,by rw[a0] at a1;exact a1,World.putObj_heap_same (Array.getElem?_eq_some_iff.1 a1).1,(World.putObj_heap_other (by omega)).trans (a2.same _ _ lr c2 rfl),?_,?_⟩
     ·have h1:=a2.size;have h2:=a4.size;simp at h1 ⊢
      omega
     ·intro k o c5 ho hc;rw[World.putObj_heap_other (by omega)];refine a2.same k o (by omega) ?_ hc;rw[World.putObj_heap_other (by omega)];exact a4.same k o (by omega) ho hc
    rintro e a3 W3 hp;cases e with
    | normal =>
     obtain⟨a2,b2,a5⟩:=hp;obtain⟨hr,a1,a6,a7,a8⟩:=fin none W3 a2;exact⟨_,_,hr,.inl ⟨rfl,⟨hI.putObj _ a5 (by omega) a1 rfl,a6,a7⟩,hKt b1 (hKt (hKt c3 b2) (hKb _ _ _ _ (by omega) a1 rfl)),a8⟩⟩
    | ret =>
     obtain⟨a2,a5⟩:=hp;obtain⟨hr,a1,a6,a7,a8⟩:=fin (some .ret) W3 a2;exact⟨_,_,hr,.inr ⟨rfl,⟨.ret,(hIx _).putObj _ a5 (by omega) a1 rfl,a6,a7⟩,a8⟩⟩
    | exit id =>
     obtain⟨a2,a5⟩:=hp;obtain⟨hr,a1,a6,a7,a8⟩:=fin (some (.exit id)) W3 a2;exact⟨_,_,hr,.inr ⟨rfl,⟨.exit id,(hIx _).putObj _ a5 (by omega) a1 rfl,a6,a7⟩,a8⟩⟩
    | goto t =>
     obtain⟨a2,a5⟩:=hp;obtain⟨hr,a1,a6,a7,a8⟩:=fin (some (.goto t)) W3 a2;exact⟨_,_,hr,.inr ⟨rfl,⟨.goto t,(hIx _).putObj _ a5 (by omega) a1 rfl,a6,a7⟩,a8⟩⟩
    | panic ch=>exact hp.elim
    | outgrown=>exact hp.elim
   | ret=>exact hp.elim
   | exit id=>exact hp.elim
   | goto t=>exact hp.elim
   | panic ch=>exact hp.elim
   | outgrown=>exact hp.elim
  ·
   rintro e W2 ⟨⟨v,rfl⟩,(⟨xs,hs,hi,hl,hk⟩|⟨pre,c4,c,hi,hl,hk⟩)⟩
   ·exact⟨none,_,by have:=run_endLoop (P:=P) hl (by rw[a0];simp);rw[a0] at this;exact this,hdone _ xs _ lr (hS _ _ _ _ _ hs (by omega) hl rfl) (hI.putObj _ hi (by omega) hl rfl) ((World.putObj_heap_other (by omega)).trans hk)⟩
   ·exact⟨some c,_,by have:=run_endLoop (P:=P) hl (by rw[a0];simp);rw[a0] at this;exact this,hstop _ c pre _ lr c4 ((hIx c).putObj _ hi (by omega) hl rfl) ((World.putObj_heap_other (by omega)).trans hk)⟩
end Go.Proofs.YtcdimmblnbkjjaaGreatDoor.Str
