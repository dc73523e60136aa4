/- Lemmas. -/
import Derived.Test.YthopehoklmgphaaGreatDoorProg
import Derived.Test.YthopehoklmgphaaGreatDoorPartAJ
import Derived.Maps.AppendAt
import Derived.BigQuiet
import Derived.Test.YthopehoklmgphaaGreatDoorPartAI
set_option linter.all false
set_option maxHeartbeats 16000000
set_option maxRecDepth 100000
open Go.Proofs.Tryz
open Go.Proofs.Tryz renaming prog->qa
open Go.RowKit renaming Below->qb
open Option renaming some->qc,none->qe
open Go renaming World->qd,Value->qf,Calls->qg,heap_alloc_new->qh,World.grownBy.refl->qi
namespace Go.Proofs.YthopehoklmgphaaGreatDoor
namespace Str
open Go Go.RowKit
theorem q3n{w A B:qd}{r u:Option Nat}(h:w.grownBy A r)(k:A.grownBy B u)(hu:∀q,u=qc q->r=qc q\/w.heap.size<=q):w.grownBy B r:=⟨k.os.trans h.os,k.tape.trans h.tape,k.output.trans h.output,k06 h.size k.size,fun i hi hne=>(k.block i (k01 hi h.size) (fun e=>by
  rcases hu i e.symm with e'|e'
  ·exact hne e'.symm
  ·omega)).trans (h.block i hi hne)⟩
theorem q3i{P:Program}{ops:Array Oper}{rest:List Oper}{op:Oper}{a:Act}{w:qd}{Q:Exit->Act->qd->Prop}(hgd:op.guard=qe)(ty:TypeId)(x y:Operand)(ho:op.op=.store ty x y)
  (b o:Nat) (x0 x1 x2 x3 x4:qf) (hx:a.eval x=.pointer (qc ⟨b,o,qe⟩)) (hy:a.eval y=.agg #[x0,x1,x2,x3,x4]) (ht:w.there b o 5) (hi:(P.info? ty).map (·.size)=qc 5)
  (h1:[x0,x1,x2,x3,x4].all (·.oneCell')=true) (h:wpList P ops Q rest (a.put op.dst undef) (w.setCells b o [x0,x1,x2,x3,x4])):wpList P ops Q (op::rest) a w:=
 wpList_store_mid hgd ty x y ho b o #[x0,x1,x2,x3,x4] hx hy ht hi (by simpa using h1) h
def vN:qf->Nat
 | .int _ z=>z.toNat
 | _=>0
theorem qf7:(Tryz.prog.info? 48).map (fun i=>(i.zero,i.size,i.bytes))=qc (qc (.agg #[.int .u64 0,.int .u8 0,.int .i64 0,.int .i64 0,.int .i64 0]),5,40):=by kernel_rfl
theorem q9e{o:Option TypeInfo}{z:qf}{s b:Nat}(h:o.map (fun i=>(i.zero,i.size,i.bytes))=qc (qc z,s,b)):∃i,o=qc i/\i.zero=qc z/\i.size=s/\i.bytes=b:=by
 cases o with
 | none=>cases h
 | some i=>simp at h;exact⟨i,rfl,h⟩
theorem q2y{w:qd}{lo n k:Nat}{e:TypeId}{v:qf}{xs:List qf}(h:w.ownsRow lo e k v n xs):∃A c,v=.slice A n c/\(0<n->∃q,A=qc ⟨q,0,qe⟩):=by
 rcases h.2 with ⟨rfl,rfl⟩|⟨q,cap,a,rfl,-⟩
 ·exact⟨qe,0,rfl,fun h=>absurd h (by decide)⟩
 ·exact⟨_,_,rfl,fun _=>⟨q,rfl⟩⟩
theorem q9M(w:qd)(cs:List qf)(t:TypeId):∀j u,cs[j]?=qc u->(w.alloc (.cells cs.toArray t)).cell? ((⟨w.heap.size,0,qe⟩:Addr).add j)=qc u:=by
 intro j u h;have a:Addr.add ⟨w.heap.size,0,qe⟩ j=⟨w.heap.size,j,qe⟩:=by cases j with|zero=>rfl|succ j=>simp [Addr.add]
 rw[a];simp only[World.cell?];rw[show(w.alloc (.cells cs.toArray t)).heap[w.heap.size]?=qc (.cells cs.toArray t (0,0)) from qh w _]
 simpa using h
theorem qdh(v:qf)(lo n:Nat)(xs:List qf)(w:qd)(h:w.ownsRow lo 48 5 v n xs)(hlo:lo<=w.heap.size)(hn:n<=20001):qg qa 20 #[v] w fun e w'=>(∃r,e=.returned r)/\w.grownBy w' v.ownBlock:=by
 obtain⟨Y,hi,S,T,U⟩:=q9e qf7;obtain⟨A,c,rfl,N⟩:=q2y h;have H:=vv h;have Z:=vv N;have a0:(n:Int)<=20001:=by omega
 have V:=vv hlo;clear h N hlo;go_enter func20,ntmps20;go_wp2;go_loopw [2] (fun i wr=>∃k:Nat,k<=n/\i=.int .i64 (k:Int)/\w.grownBy wr (Value.slice A n c).ownBlock/\∃t,wr.ownsRow lo 48 5 (.slice A n c) n t) (fun i _=>n-vN i)
 case atStart=>exact⟨0,k0d _,rfl,qi _ _,_,H.o⟩
 case round =>
  obtain⟨k,hk,rfl,b,t,d⟩:=hrel;have O:=vv b;have y:=vv d;clear b d;by_cases hkn:k<n
  ·obtain⟨q,rfl⟩:=Z.o (by omega);have a:=q5P y.o k hkn;have P:=q5d y.o (k*5) [.int .u64 0,.int .u8 0,.int .i64 0,.int .i64 (-5),.int .i64 0];have Q:=vv P;have W:(k:Int)<(n:Int):=by omega
   clear P;go_wp2_with (with_reducible refine q3i rfl 48 (.tmp 13) (.tmp 12) rfl q (k*5) (.int .u64 0) (.int .u8 0) (.int .i64 0) (.int .i64 (-5)) (.int .i64 0) rfl rfl a (by kernel_rfl) rfl ?_);go_wp2;go_roundw
   case rel=>exact⟨k+1,by omega,by go_num,q3n O.o Q.o.2 (fun x e=>.inl (by injection e with e;rw[<- e];rfl)),Q.o.1⟩
   case measure=>simp [vN];omega
  ·obtain rfl:k=n:=by omega
   go_wp2;go_loopw [0,3] (fun l i wr=>∃(j:Nat) (z:List qf),j<=9/\i=.int .i64 (j:Int)/\w.grownBy wr (Value.slice A k c).ownBlock/\wr.ownsRow lo 48 5 l (k+j) z/\∀q,l.ownBlock=qc q->(Value.slice A k c).ownBlock=qc q\/w.heap.size<=q) (fun _ i _=>9-vN i)
   case atStart=>exact⟨0,t,k0d _,rfl,O.o,y.o,fun q e=>.inl e⟩
   case round =>
    obtain⟨j,z,hj,rfl,b,d,R⟩:=hrel;have g:=vv b;have m:=vv d;have s:=vv R;clear b d R;by_cases hj9:j<9
    ·have a1:(j:Int)<9:=by omega
     have D:∀u∈[Value.int .u64 0,.int .u8 0,.int .i64 0,.int .i64 (-6),.int .i64 0],u.oneCell'=true:=by decide
     have X:=vv D;have E:k+j<=20010:=by omega
     have F:=vv E;clear D E;go_wp2_with (at_builtin;refine wpList_append_own_at _ rfl _ _ 42 rfl lo 48 Y (.agg #[.int .u64 0,.int .u8 0,.int .i64 0,.int .i64 0,.int .i64 0]) 5 40 underlying42 hi S T U rfl (by decide) _ (k+j) z rfl (m.o.alloc _) ⟨wr.heap.size,0,qe⟩ 1 1 [.int .u64 0,.int .u8 0,.int .i64 0,.int .i64 (-6),.int .i64 0] rfl rfl (q9M wr _ _) X.o (by have:=F.o;unfold maxLen;omega) (by have:=F.o;omega) (by have:=V.o;have:=g.o.size;simp;omega) ?_);intro l2 w3 G I _ J;have K:=q3n g.o (World.grownBy.trans (World.grownBy_alloc wr _ _) I) s.o;have L:∀q,l2.ownBlock=qc q->(Value.slice A k c).ownBlock=qc q\/w.heap.size<=q:=by
      intro q f;rcases J with e|e
      ·exact s.o q (e ▸ f)
      ·rw[e] at f;injection f with f;have:=g.o.size;right;omega
     have C:=vv (And.intro K (And.intro G L));clear G I J K L;go_wp2;go_roundw
     case rel=>exact⟨j+1,_,by omega,by go_num,C.o.1,C.o.2.1,C.o.2.2⟩
     case measure=>simp [vN];omega
    ·obtain rfl:j=9:=by omega
     obtain⟨A',c',rfl,M⟩:=q2y m.o;obtain⟨q,rfl⟩:=M (by omega);have a:=q5P m.o 0 (by omega);rw[k1K] at a;obtain⟨u4,h4⟩:=Option.isSome_iff_exists.1 (a 4 (by decide)).1;have f4:=(a 4 (by decide)).2;have f:=(m.o.lt q rfl).2;rw[k13] at h4 f4;have W:(0:Int)<((k+9:Nat):Int):=by omega
     have HE:Hid (w.grownBy (wr.setCell ⟨q,4,qe⟩ (.int .i64 (-7))) (Value.slice A k c).ownBlock):=vv (q3n g.o (q09 (qi wr (qc q)) (p:=⟨q,4,qe⟩) (.inl rfl) _) (fun x e=>by injection e with e;exact s.o x (by rw[<- e];rfl)));clear a M;go_wp2;go_end0;exact⟨⟨_,rfl⟩,HE.o⟩
def q6P(fd:FuncId)(q:Option Addr)(args:List qf)(Post:qd->Prop)(W:qd)(e:Ending)(w1:qd):Prop:=
 ∃(v:qf) (c:Nat),e=.returned (.tuple #[v,.int .i64 (c:Int)])/\(∀(g:Nat) (cs:Array qf),W.heap[g]?=qc (Obj.cells cs 37 (0,0))->w1.heap[g]?=qc (Obj.cells cs 37 (0,0)))/\qg qa fd (.pointer q::args).toArray w1 fun e w2 =>∃(u:qf) (n:Nat) (xs:List qf) (lo:Nat),e=.returned (.tuple #[u,.int .i64 (c:Int)])/\w2.ownsRow lo 48 5 v n xs/\lo<=w2.heap.size/\n<=20001 /\(qg qa 19 #[v,u] w2 fun e w3=>e=.returned (.bool true)/\qb w2.heap.size w2 w3)/\∀w3 w4,qb w2.heap.size w2 w3->w3.grownBy w4 v.ownBlock->Post w4
def qbF(p q:Option Addr)(W:qd):Prop:=
 ∃n m:Nat,qg qa 8 #[.pointer p] W (fun e w'=>e=.returned (.int .i64 (n:Int))/\W=w')/\qg qa 9 #[.pointer q] W (fun e w'=>e=.returned (.int .i64 (n:Int))/\W=w') /\qg qa 10 #[.pointer p] W (fun e w'=>e=.returned (.int .i64 (m:Int))/\W=w')/\qg qa 11 #[.pointer q] W (fun e w'=>e=.returned (.int .i64 (m:Int))/\qb W.heap.size W w')
theorem q43{A B:qd}{base n k:Nat}{e:TypeId}{v:qf}{xs:List qf}(h:A.ownsRow base e k v n xs)(hb:qb A.heap.size A B):B.ownsRow base e k v n xs:=h.kept (q03 hb qe) (Classical.em _)
theorem qaB(w:qd)(p q:Option Addr)(k x:Int)(t:ByteArray)(Post:qd->Prop)
  (HF:k=1->∀W,qb w.heap.size w W->qg qa 13 #[.pointer p,.string t] W (q6P 18 q [.string t] Post W))
  (HE:k=2->∀W,qb w.heap.size w W->qg qa 14 #[.pointer p] W (q6P 21 q [] Post W))
  (HL:k≠1->k≠2->∀W,qb w.heap.size w W->qbF p q W/\Post W) :
  qg qa 7 #[.pointer p,.pointer q,.agg #[.int .i64 k,.int .i64 x,.string t]] w fun e w'=>e=.returned (.bool true)/\Post w':=by
 obtain⟨a,d⟩:=yx (w.alloc (.cells #[.int .i64 k,.int .i64 x,.string t] 37));have i:a.heap[w.heap.size]?=qc (.cells #[.int .i64 k,.int .i64 x,.string t] 37 (0,0)):=by rw[d];exact qh w _
 have g:qb w.heap.size w a:=by rw[d];exact(Below.refl _ w).alloc lr _
 have K:a.cell? ⟨w.heap.size,0,qe⟩=qc (.int .i64 k):=by simp [World.cell?,i]
 have G:a.cell? ⟨w.heap.size,2,qe⟩=qc (.string t):=by simp [World.cell?,i]
 have hl:w.heap.size<a.heap.size:=by rw[d];simp
 have L:=vv d;have HH:=vv i;by_cases h1:k=1
 ·have H:=vv (HF h1 a g);have X:(k==1)=true:=by simp [h1]
  clear HF HE HL d g h1 i;go_enter func7,ntmps7;go_wp2_with fail;rw[<- L.o];go_wp2_with fail;refine H.o.mono ?_;rintro e I ⟨v,c,rfl,Y,s⟩;have J:=Y _ _ HH.o;have G:I.cell? ⟨w.heap.size,2,qe⟩=qc (.string t):=by simp [World.cell?,J]
  have a0:w.heap.size<I.heap.size:=(k09.1 J).1;have y:=vv s;clear Y J s H;go_wp2_with fail;refine y.o.mono ?_;rintro e w2 ⟨u,n,M,N,rfl,z,j,C,D,b⟩;have h:=vv (And.intro z (And.intro j C));have O:=vv D;have E:=vv b;clear z j C D b y K G a0;go_wp2_with fail;refine O.o.mono ?_;rintro e P ⟨rfl,l⟩;have f:=vv l;clear l;go_wp2_with fail;refine(qdh v N n M P (q43 h.o.1 f.o) (k06 h.o.2.1 f.o.size) h.o.2.2).mono ?_;rintro e w4 ⟨⟨r,rfl⟩,F⟩;have Q:=vv F;clear F;go_wp2;go_ret;exact⟨rfl,E.o _ _ f.o Q.o⟩
 ·by_cases h2:k=2
  ·have H:=vv (HE h2 a g);have X:(k==1)=false:=by simp [h1]
   have e2:(k==2)=true:=by simp [h2]
   clear HF HE HL d g h1 h2 i;go_enter func7,ntmps7;go_wp2_with fail;rw[<- L.o];go_wp2_with fail;refine H.o.mono ?_;rintro e I ⟨v,c,rfl,-,s⟩;have y:=vv s;clear s H K G;go_wp2_with fail;refine y.o.mono ?_;rintro e w2 ⟨u,n,M,N,rfl,z,j,C,D,b⟩;have h:=vv (And.intro z (And.intro j C));have O:=vv D;have E:=vv b;clear z j C D b y;go_wp2_with fail;refine O.o.mono ?_;rintro e P ⟨rfl,l⟩;have f:=vv l;clear l;go_wp2_with fail;refine(qdh v N n M P (q43 h.o.1 f.o) (k06 h.o.2.1 f.o.size) h.o.2.2).mono ?_;rintro e w4 ⟨⟨r,rfl⟩,F⟩;have Q:=vv F;clear F;go_wp2;go_ret;exact⟨rfl,E.o _ _ f.o Q.o⟩
  ·obtain⟨⟨n,m,R,S,T,U⟩,-⟩:=HL h1 h2 a g;have b:∀W,qb w.heap.size w W->Post W:=fun W hW=>(HL h1 h2 W hW).2
   have a1:=vv R;have a2:=vv S;have a3:=vv T;have a4:=vv U;have E:=vv b;have Z:=vv g;have X:(k==1)=false:=by simp [h1]
   have e2:(k==2)=false:=by simp [h2]
   clear HF HE HL d g h1 h2 i R S T U b;go_enter func7,ntmps7;go_wp2_with fail;rw[<- L.o];go_wp2_with fail;refine a1.o.mono ?_;rintro e w' ⟨rfl,rfl⟩;go_wp2_with fail;refine a2.o.mono ?_;rintro e w' ⟨rfl,rfl⟩;go_wp2_with fail;refine a3.o.mono ?_;rintro e w' ⟨rfl,rfl⟩;go_wp2_with fail;refine a4.o.mono ?_;rintro e I ⟨rfl,V⟩;have a5:=vv V;clear V K G hl;go_wp2;go_ret;exact⟨rfl,E.o _ (Z.o.trans (a5.o.mono Z.o.size))⟩
structure Steps(w:qd)(pa pb pc pd:Option Addr)(gz:Nat)(I:Nat->qd->Prop):Prop where
 low:∀r W,I r W->qb w.heap.size w W
 one:∀p q,(p=pa/\q=pc\/p=pb/\q=pd\/p=qe/\q=qe\/p=qc ⟨gz,0,qe⟩/\q=qe)->∀r W (k x:Int) (t:ByteArray),I r W->r+t.size<=20000 ->qg qa 7 #[.pointer p,.pointer q,.agg #[.int .i64 k,.int .i64 x,.string t]] W fun e w'=>e=.returned (.bool true)/\I (r+t.size) w'
 stands:∀p q,(p=pa/\q=pc\/p=pb/\q=pd)->∀r W,I r W->qbF p q W
 far:∀r A B,I r A->qb A.heap.size A B->I r B
def qeR(N:Nat)(P:qd->Nat->qd->Prop)(W:qd)(e:Ending)(w':qd):Prop:=
 qb W.heap.size W w'/\((N≠0/\e=.returned (.tuple #[.pointer qe,.int .i64 (N:Int)]))\/(N=0/\∃g,e=.returned (.tuple #[.pointer (qc ⟨g,0,qe⟩),.int .i64 0])/\P W g w'))
def q8o:List qf:=[.int .i64 0,.int .i64 0,.int .u8 0,.string ⟨#[]⟩,.int .i64 0,.pointer qe,.bool false,.bool false]
theorem q6m(w:qd)(E F:Int)(mode:Nat)(sep:ByteArray)(Ad:Option Addr)(n c:Nat)(C:Nat->Int × Int × ByteArray)(hC:Ops w Ad n C)(N:Nat)(P D:qd->Nat->qd->Prop)
  (HAw:∀W,qb w.heap.size w W->qg qa 4 #[] W fun e w'=>e=.returned (.bool true)/\qb W.heap.size W w')
  (HN:∀W,qb w.heap.size w W->qg qa 5 #[.agg #[.int .i64 E,.int .i64 F],.int .u8 (mode:Int),.string sep] W (qeR N P W))
  (HD:∀W,qb w.heap.size w W->qg qa 6 #[.agg #[.int .i64 E,.int .i64 F],.int .u8 (mode:Int),.string sep] W (qeR N D W))
  (HI0:N≠0->∀W,qb w.heap.size w W->∃I,Steps w qe qe qe qe W.heap.size I/\I 0 (W.alloc (.cells q8o.toArray 35)))
  (HI1:N=0->∀W0 W1 W2 W3 W4 g1 g2 d1 d2,qb w.heap.size w W0->P W0 g1 W1->qb W0.heap.size W0 W1->P W1 g2 W2->qb W1.heap.size W1 W2->D W2 d1 W3->qb W2.heap.size W2 W3->D W3 d2 W4->qb W3.heap.size W3 W4 ->∃I,Steps w (qc ⟨g1,0,qe⟩) (qc ⟨g2,0,qe⟩) (qc ⟨d1,0,qe⟩) (qc ⟨d2,0,qe⟩) W4.heap.size I/\I 0 (W4.alloc (.cells q8o.toArray 35))) :
  qg qa 3 #[.agg #[.int .i64 E,.int .i64 F],.int .u8 (mode:Int),.string sep,.slice Ad n c] w fun e w'=>e=.returned (.bool true)/\qb w.heap.size w w':=by
 obtain⟨a,L⟩:=yx (w.alloc (.cells #[.int .i64 E,.int .i64 F] 23));have hh:a.heap[w.heap.size]?=qc (.cells #[.int .i64 E,.int .i64 F] 23 (0,0)):=by rw[L];exact qh w _
 have b0:qb w.heap.size w a:=by rw[L];exact(Below.refl _ w).alloc lr _
 have hl:w.heap.size<a.heap.size:=by rw[L];simp
 have G:Hid (∀W,qb a.heap.size a W->W.cell? ⟨w.heap.size,0,qe⟩=qc (.int .i64 E)/\W.cell? ⟨w.heap.size,1,qe⟩=qc (.int .i64 F)/\w.heap.size<W.heap.size):=vv (fun W hW=>by have h2:=(hW.block _ hl).trans hh;exact⟨by simp [World.cell?,h2],by simp [World.cell?,h2],k01 hl hW.size⟩);have HA:=vv HAw;have a6:=vv HN;have M:=vv HD;have H0:=vv HI0;have H1:=vv HI1;have HC:=vv hC;have HW:=vv L;have d:=vv b0;clear HAw HN HD HI0 HI1 hC L b0 hh hl;go_enter func3,ntmps3;go_wp2_with fail;rw[<- HW.o];go_wp2_with fail;refine(HA.o a d.o).mono ?_;rintro e w1 ⟨rfl,b1⟩;have O:Hid (qb a.heap.size a w1):=vv b1;clear b1;obtain⟨f,g,j⟩:=G.o _ O.o;go_wp2_with fail;refine(a6.o w1 (d.o.trans (O.o.mono d.o.size))).mono ?_;rintro e Q ⟨p,⟨l,rfl⟩|⟨l,g1,rfl,b2⟩⟩
 focus
  have t:Hid (qb a.heap.size a Q):=vn O p;have b3:=vv p;clear f g j p;obtain⟨f,g,j⟩:=G.o _ t.o;go_wp2_with fail;refine(a6.o Q (d.o.trans (t.o.mono d.o.size))).mono ?_;rintro e J ⟨m,h⟩;obtain⟨-,rfl⟩:=h.resolve_right (fun h=>l h.1);have u:Hid (qb a.heap.size a J):=vn t m;have b4:=vv m;clear f g j m;obtain⟨f,g,j⟩:=G.o _ u.o;go_wp2_with fail;refine(M.o J (d.o.trans (u.o.mono d.o.size))).mono ?_;rintro e K ⟨v,h⟩;obtain⟨-,rfl⟩:=h.resolve_right (fun h=>l h.1);have x:Hid (qb a.heap.size a K):=vn u v;have b5:=vv v;clear f g j v;obtain⟨f,g,j⟩:=G.o _ x.o;go_wp2_with fail;refine(M.o K (d.o.trans (x.o.mono d.o.size))).mono ?_;rintro e R ⟨z,h⟩;obtain⟨-,rfl⟩:=h.resolve_right (fun h=>l h.1);have b6:Hid (qb a.heap.size a R):=vn x z;have b7:=vv z;clear f g j z;obtain⟨I,S,s⟩:=H0.o l R (d.o.trans (b6.o.mono d.o.size));have q:=vv S;have HI:=vv s;have t1:((N:Int) != (N:Int))=false:=by simp
  clear S s l;go_wp2_with fail
 rotate_left
 focus
  have c4:=vv b2;clear b2;have t:Hid (qb a.heap.size a Q):=vn O p;have b3:=vv p;clear f g j p;obtain⟨f,g,j⟩:=G.o _ t.o;go_wp2_with fail;refine(a6.o Q (d.o.trans (t.o.mono d.o.size))).mono ?_;rintro e J ⟨m,h⟩;obtain⟨-,g2,rfl,b8⟩:=h.resolve_left (fun h=>h.1 l);have c5:=vv b8;clear b8;have u:Hid (qb a.heap.size a J):=vn t m;have b4:=vv m;clear f g j m;obtain⟨f,g,j⟩:=G.o _ u.o;go_wp2_with fail;refine(M.o J (d.o.trans (u.o.mono d.o.size))).mono ?_;rintro e K ⟨v,h⟩;obtain⟨-,g3,rfl,b9⟩:=h.resolve_left (fun h=>h.1 l);have c6:=vv b9;clear b9;have x:Hid (qb a.heap.size a K):=vn u v;have b5:=vv v;clear f g j v;obtain⟨f,g,j⟩:=G.o _ x.o;go_wp2_with fail;refine(M.o K (d.o.trans (x.o.mono d.o.size))).mono ?_;rintro e R ⟨z,h⟩;obtain⟨-,g4,rfl,c0⟩:=h.resolve_left (fun h=>h.1 l);have c7:=vv c0;clear c0;have b6:Hid (qb a.heap.size a R):=vn x z;have b7:=vv z;clear f g j z;obtain⟨I,S,s⟩:=H1.o l w1 Q J K R g1 g2 g3 g4 (d.o.trans (O.o.mono d.o.size)) c4.o b3.o c5.o b4.o c6.o b5.o c7.o b7.o;have q:=vv S;have HI:=vv s;clear S s l;go_wp2_with fail
 rotate_left;all_goals
  clear H0 H1 HA a6 M;go_loopw [9,19,20] (fun ok room i wr=>∃k r:Nat,ok=.bool true/\k<=60/\r<=20000/\i=.int .i64 (k:Int)/\room=.int .i64 (20000-(r:Int))/\I r wr) (fun _ _ i _=>61-vN i)
  case atStart=>exact⟨0,0,rfl,by decide,by decide,rfl,rfl,HI.o⟩
  case round =>
   obtain⟨k,r,rfl,hk,hr,rfl,rfl,s⟩:=hrel;have a7:=vv s;have d5:(r:Int)<=20000:=by omega
   clear s;by_cases hc:k<n/\k<60
   ·obtain⟨a9,c8⟩:=hc;obtain⟨b,o,c9,d0,a0⟩:=HC.o.below (q.o.low _ _ a7.o) (by omega);have q0:=a0 k a9 0 _ rfl;have q1:=a0 k a9 1 _ rfl;have q2:=a0 k a9 2 _ rfl;obtain⟨⟨kk,xx,H⟩,c1⟩:∃y,y=C k:=⟨_,rfl⟩;rw[<- c1] at q0 q1 q2;simp only[k0S] at q0;dsimp only at q0 q1 q2;have d6:(k:Int)<(n:Int):=by omega
    have d4:(k:Int)<60:=by omega
    subst c9;clear a0 c1;by_cases a5:r+H.size<=20000
    ·have t2:¬(20000-(r:Int))<(H.size:Int):=by omega
     have t3:(H.size:Int)<=20000:=by omega
     have t4:(0:Int)<=20000-(r:Int)-(H.size:Int):=by omega
     have a8:=vv (And.intro a5 (And.intro c8 hk));go_wp2_with fail
     all_goals
      refine(q.o.one _ _ (by first|exact .inl ⟨rfl,rfl⟩|exact .inr (.inl ⟨rfl,rfl⟩)|exact .inr (.inr (.inl ⟨rfl,rfl⟩))|exact .inr (.inr (.inr ⟨rfl,rfl⟩))) r wr kk xx H a7.o a8.o.1).mono ?_;rintro e x1 ⟨rfl,c2⟩;have HI1:=vv c2;clear q0 q1 q2 d0 c2;obtain⟨n1,m1,T,U,V,X⟩:=q.o.stands _ _ (.inl ⟨rfl,rfl⟩) _ _ HI1.o;have Y:=vv T;have Z:=vv U;have A3:=vv V;have A4:=vv X;clear T U V X;go_wp2_with fail;refine Y.o.mono ?_;rintro e w' ⟨rfl,rfl⟩;go_wp2_with fail;refine Z.o.mono ?_;rintro e w' ⟨rfl,rfl⟩;go_wp2_with fail;refine A3.o.mono ?_;rintro e w' ⟨rfl,rfl⟩;go_wp2_with fail;refine A4.o.mono ?_;rintro e x2 ⟨rfl,p⟩;have c3:=vv (q.o.far _ _ _ HI1.o p);clear p Y Z A3 A4;obtain⟨n2,m2,T,U,V,X⟩:=q.o.stands _ _ (.inr ⟨rfl,rfl⟩) _ _ c3.o;have Y:=vv T;have Z:=vv U;have A3:=vv V;have A4:=vv X;clear T U V X;go_wp2_with fail;refine Y.o.mono ?_;rintro e w' ⟨rfl,rfl⟩;go_wp2_with fail;refine Z.o.mono ?_;rintro e w' ⟨rfl,rfl⟩;go_wp2_with fail;refine A3.o.mono ?_;rintro e w' ⟨rfl,rfl⟩;go_wp2_with fail;refine A4.o.mono ?_;rintro e x3 ⟨rfl,m⟩;have d3:=vv (q.o.far _ _ _ c3.o m);clear m Y Z A3 A4;go_wp2;go_roundw
      case rel=>exact⟨k+1,r+H.size,rfl,by have:=a8.o.2;omega,a8.o.1,by go_num,by go_num,d3.o⟩
      case measure=>have:=a8.o.2;simp [vN];omega
    ·have t2:(20000-(r:Int))<(H.size:Int):=by omega
     go_wp2;go_ret;exact⟨rfl,q.o.low _ _ a7.o⟩
   ·have t5:((k:Int)<(n:Int)/\¬(k:Int)<60)\/¬(k:Int)<(n:Int):=by omega
    clear hc;rcases t5 with ⟨t5,t6⟩|t5;all_goals
     go_wp2;go_ret;exact⟨rfl,q.o.low _ _ a7.o⟩
end Str
end Go.Proofs.YthopehoklmgphaaGreatDoor
