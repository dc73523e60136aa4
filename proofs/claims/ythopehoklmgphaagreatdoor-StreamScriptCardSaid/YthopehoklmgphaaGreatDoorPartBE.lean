/- Lemmas. -/
import Derived.Test.YthopehoklmgphaaGreatDoorPartBD
set_option linter.all false
set_option maxHeartbeats 40000000
open Go.Proofs.Tryz
open Bool renaming false->qa,true->qb
namespace Go.Proofs.YthopehoklmgphaaGreatDoor
namespace Lex
open Go Go.RowKit R5
theorem qcU(kind:Nat)(neg dneg:Bool)(s:ByteArray)(x:Int)(hneg:Bool)(A:Option Addr)(n c:Nat)(xs:List Nat)(hx:Int)(p:Nat)(w:World)(hr:Rd w A n c xs)(hmax:(s.size:Int)<=4611686018427387904)(he:s.toList.isEmpty=qb)(hd:dneg=qa)(tx:(x==0)=qa):Calls Tryz.prog 51 #[numV kind neg dneg s x hneg A n c hx p] w fun e w'=>e=.returned (.int .i64 (q08 (q1C kind neg dneg s x hneg n xs hx p)))/\Below w.heap.size w w':=by
 obtain⟨a0,L⟩:=yx (q0w s x);obtain⟨r,t⟩:=yx (twoOk hneg n xs hx);obtain⟨y,M⟩:=yx (R11.noTwoB hneg n hx);obtain⟨V,l⟩:=yx (q1C kind neg dneg s x hneg n xs hx p);have Z:=vv fun w=>Dec.Check dneg s x w hmax
 have HT:=vv fun w' (h:Below w.heap.size w w')=>Exa.Check hneg A n c xs hx w' (hr.below h rfl)
 have td:=Dec.decErr_zero s x;have tt:=Exa.exaErr_zero hneg n xs hx;obtain⟨zd,N⟩:=yx (Dec.decErr s x);obtain⟨zt,O⟩:=yx (Exa.exaErr hneg n xs hx);rw[<- N,<- L] at td;rw[<- N] at Z;rw[<- O,<- t] at tt;rw[<- O] at HT;rw[<- l];unfold q1C at l;rw[<- L,<- t,<- M] at l;have m:=vv l;have g:=vv M;have U:=vv t;obtain⟨w0,u⟩:=yx (w.alloc (.cells #[.int .u8 (kind:Int),.bool neg,.bool dneg,.string s,.int .i64 x,.bool hneg,.slice A n c,.int .i64 hx,.int .u64 (p:Int)] 92));have W:Below w.heap.size w w0:=by rw[u];exact(Below.refl _ w).alloc lr _
 have X:NumBox w0 w.heap.size kind neg dneg s x hneg A n c hx p:=by rw[u];exact NumBox.made w _ _ _ _ _ _ _ _ _ _ _ _
 have j:=vv X;have k:=vv W;have Y:=vv u;have P:=vv ((Below.refl w.heap.size w).alloc (o:=.cells #[.int .u8 (kind:Int),.bool neg,.bool dneg,.string s,.int .i64 x,.bool hneg,.slice A n c,.int .i64 hx,.int .u64 (p:Int)] 92) lr);have a1:=hr.sm;clear u W X hr L t M l N O hmax;obtain⟨z,C,D,E,F,G,H,I,c8,J⟩:=j.o;subst hd;have q:Hid (q1q qa s x=qa):=vv (by unfold q1q;rw[he,tx];rfl);go_enter func51,ntmps51;by_cases hn:n=0
 focus
  have tn:((n:Int)==0)=qb:=by rw[hn];rfl
  have v:=vv hn;cases th:(hx==0)
  focus
   have Q:hx≠0:=by rw[k02] at th;exact th
   have g:Hid (y=qa):=vv (by rw[g.o];unfold R11.noTwoB;rw[k00 Q];simp);have b:Hid (r=qb->n≠0):=vv (fun ht _=>by rw[U.o] at ht;exact Q (q1l ht hn).1);clear hn Q
  rotate_left 1
  focus
   have R:hx=0:=by rw[k2r] at th;exact th
   cases hneg
   focus
    have g:Hid (y=qb):=vv (by rw[g.o];unfold R11.noTwoB;rw[k03 hn,k03 R];rfl);clear R hn
   rotate_left 1
   focus
    have g:Hid (y=qa):=vv (by rw[g.o];unfold R11.noTwoB;simp);have b:Hid (r=qb->n≠0):=vv (fun ht _=>by rw[U.o] at ht;exact absurd (q1l ht hn).2 (by decide));clear hn R
 rotate_left 3
 focus
  have tn:((n:Int)==0)=qa:=by rw[k02];omega
  have g:Hid (y=qa):=vv (by rw[g.o];unfold R11.noTwoB;rw[k00 hn];rfl);have b:Hid (r=qb->n≠0):=vv (fun _=>hn);clear hn
 all_goals
  rcases(by omega:kind=1\/kind=2\/kind=3\/kind=4\/(kind≠1/\kind≠2/\kind≠3/\kind≠4)) with f|f|f|f|⟨q1,q2,q3,q4⟩
  ·have a:=vv f;have K:((kind:Int)==1)=qb:=by rw[f];rfl
   clear f;go_wp2_with fail;rw[<- Y.o];refine(Z.o _).mono ?_;rintro e w1 ⟨rfl,i⟩;have j:=vv (j.o.below i);have k:=vn k i;clear i z C D E F G H I c8 J;obtain⟨z,C,D,E,F,G,H,I,c8,J⟩:=j.o;cases a0<;>cases neg<;>rcases zero_or p with ⟨S,tp⟩|⟨S,tp⟩
   all_goals
    have d:=vv S;clear S;go_wp2;go_ret;exact⟨q0o (by rw[m.o,q.o,g.o];first|(simp [q08,a.o];done)|(simp [q08,a.o,d.o];done)|(simp [q08,a.o,d.o,v.o];done)|(simp [q08,a.o,b.o rfl];done)|(simp [q08,a.o,d.o,b.o rfl];done)|(simp [q08,a.o,b.o trivial];done)|(simp [q08,a.o,d.o,b.o trivial];done)),k.o⟩
  ·have a:=vv f;have K:((kind:Int)==1)=qa:=by rw[k02];omega
   have T:((kind:Int)==2)=qb:=by rw[f];rfl
   clear f;go_wp2_with fail;rw[<- Y.o];refine(HT.o _ k.o).mono ?_;rintro e w1 ⟨rfl,i⟩;have j:=vv (j.o.below i);have k:=vn k i;clear i z C D E F G H I c8 J;obtain⟨z,C,D,E,F,G,H,I,c8,J⟩:=j.o;cases r<;>(try cases hneg)<;>cases neg
   all_goals
    go_wp2;go_ret;exact⟨q0o (by rw[m.o,q.o,g.o];first|(simp [q08,a.o];done)|(simp [q08,a.o,d.o];done)|(simp [q08,a.o,d.o,v.o];done)|(simp [q08,a.o,b.o rfl];done)|(simp [q08,a.o,d.o,b.o rfl];done)|(simp [q08,a.o,b.o trivial];done)|(simp [q08,a.o,d.o,b.o trivial];done)),k.o⟩
  ·have a:=vv f;have K:((kind:Int)==1)=qa:=by rw[k02];omega
   have T:((kind:Int)==2)=qa:=by rw[k02];omega
   have t3:((kind:Int)==3)=qb:=by rw[f];rfl
   clear f;all_goals
    go_wp2;go_ret;exact⟨q0o (by rw[m.o,q.o,g.o];first|(simp [q08,a.o];done)|(simp [q08,a.o,d.o];done)|(simp [q08,a.o,d.o,v.o];done)|(simp [q08,a.o,b.o rfl];done)|(simp [q08,a.o,d.o,b.o rfl];done)|(simp [q08,a.o,b.o trivial];done)|(simp [q08,a.o,d.o,b.o trivial];done)),P.o⟩
  ·have a:=vv f;have K:((kind:Int)==1)=qa:=by rw[k02];omega
   have T:((kind:Int)==2)=qa:=by rw[k02];omega
   have t3:((kind:Int)==3)=qa:=by rw[k02];omega
   have t4:((kind:Int)==4)=qb:=by rw[f];rfl
   clear f;all_goals
    go_wp2;go_ret;exact⟨q0o (by rw[m.o,q.o,g.o];first|(simp [q08,a.o];done)|(simp [q08,a.o,d.o];done)|(simp [q08,a.o,d.o,v.o];done)|(simp [q08,a.o,b.o rfl];done)|(simp [q08,a.o,d.o,b.o rfl];done)|(simp [q08,a.o,b.o trivial];done)|(simp [q08,a.o,d.o,b.o trivial];done)),P.o⟩
  ·have K:((kind:Int)==1)=qa:=by rw[k02];omega
   have T:((kind:Int)==2)=qa:=by rw[k02];omega
   have t3:((kind:Int)==3)=qa:=by rw[k02];omega
   have t4:((kind:Int)==4)=qa:=by rw[k02];omega
   all_goals
    go_wp2;go_ret;exact⟨q0o (by rw[m.o,q.o,g.o];simp [q08,q1,q2,q3,q4]),P.o⟩
theorem qcT(kind:Nat)(neg dneg:Bool)(s:ByteArray)(x:Int)(hneg:Bool)(A:Option Addr)(n c:Nat)(xs:List Nat)(hx:Int)(p:Nat)(w:World)(hr:Rd w A n c xs)(hmax:(s.size:Int)<=4611686018427387904)(he:s.toList.isEmpty=qb)(hd:dneg=qa)(tx:(x==0)=qb):Calls Tryz.prog 51 #[numV kind neg dneg s x hneg A n c hx p] w fun e w'=>e=.returned (.int .i64 (q08 (q1C kind neg dneg s x hneg n xs hx p)))/\Below w.heap.size w w':=by
 obtain⟨a0,N⟩:=yx (q0w s x);obtain⟨u,v⟩:=yx (twoOk hneg n xs hx);obtain⟨C,O⟩:=yx (R11.noTwoB hneg n hx);obtain⟨V,q⟩:=yx (q1C kind neg dneg s x hneg n xs hx p);have HD:=vv fun w=>Dec.Check dneg s x w hmax
 have HT:=vv fun w' (h:Below w.heap.size w w')=>Exa.Check hneg A n c xs hx w' (hr.below h rfl)
 have td:=Dec.decErr_zero s x;have tt:=Exa.exaErr_zero hneg n xs hx;obtain⟨zd,P⟩:=yx (Dec.decErr s x);obtain⟨zt,Q⟩:=yx (Exa.exaErr hneg n xs hx);rw[<- P,<- N] at td;rw[<- P] at HD;rw[<- Q,<- v] at tt;rw[<- Q] at HT;rw[<- q];unfold q1C at q;rw[<- N,<- v,<- O] at q;have r:=vv q;have i:=vv O;have W:=vv v;obtain⟨w0,y⟩:=yx (w.alloc (.cells #[.int .u8 (kind:Int),.bool neg,.bool dneg,.string s,.int .i64 x,.bool hneg,.slice A n c,.int .i64 hx,.int .u64 (p:Int)] 92));have X:Below w.heap.size w w0:=by rw[y];exact(Below.refl _ w).alloc lr _
 have Y:NumBox w0 w.heap.size kind neg dneg s x hneg A n c hx p:=by rw[y];exact NumBox.made w _ _ _ _ _ _ _ _ _ _ _ _
 have k:=vv Y;have l:=vv X;have Z:=vv y;have R:=vv ((Below.refl w.heap.size w).alloc (o:=.cells #[.int .u8 (kind:Int),.bool neg,.bool dneg,.string s,.int .i64 x,.bool hneg,.slice A n c,.int .i64 hx,.int .u64 (p:Int)] 92) lr);have a1:=hr.sm;clear y X Y hr N v O q P Q hmax;obtain⟨D,E,F,G,H,I,J,K,c8,L⟩:=k.o;subst hd;have t:Hid (q1q qa s x=qb):=vv (by unfold q1q;rw[he,tx];rfl);go_enter func51,ntmps51;by_cases hn:n=0
 focus
  have tn:((n:Int)==0)=qb:=by rw[hn];rfl
  have z:=vv hn;cases th:(hx==0)
  focus
   have S:hx≠0:=by rw[k02] at th;exact th
   have i:Hid (C=qa):=vv (by rw[i.o];unfold R11.noTwoB;rw[k00 S];simp);have d:Hid (u=qb->n≠0):=vv (fun ht _=>by rw[W.o] at ht;exact S (q1l ht hn).1);clear hn S
  rotate_left 1
  focus
   have T:hx=0:=by rw[k2r] at th;exact th
   cases hneg
   focus
    have i:Hid (C=qb):=vv (by rw[i.o];unfold R11.noTwoB;rw[k03 hn,k03 T];rfl);clear T hn
   rotate_left 1
   focus
    have i:Hid (C=qa):=vv (by rw[i.o];unfold R11.noTwoB;simp);have d:Hid (u=qb->n≠0):=vv (fun ht _=>by rw[W.o] at ht;exact absurd (q1l ht hn).2 (by decide));clear hn T
 rotate_left 3
 focus
  have tn:((n:Int)==0)=qa:=by rw[k02];omega
  have i:Hid (C=qa):=vv (by rw[i.o];unfold R11.noTwoB;rw[k00 hn];rfl);have d:Hid (u=qb->n≠0):=vv (fun _=>hn);clear hn
 all_goals
  rcases(by omega:kind=1\/kind=2\/kind=3\/kind=4\/(kind≠1/\kind≠2/\kind≠3/\kind≠4)) with f|f|f|f|⟨q1,q2,q3,q4⟩
  ·have a:=vv f;have M:((kind:Int)==1)=qb:=by rw[f];rfl
   clear f;go_wp2_with fail;rw[<- Z.o];refine(HD.o _).mono ?_;rintro e w1 ⟨rfl,j⟩;have k:=vv (k.o.below j);have l:=vn l j;clear j D E F G H I J K c8 L;obtain⟨D,E,F,G,H,I,J,K,c8,L⟩:=k.o;cases a0<;>cases neg<;>rcases zero_or p with ⟨g,m⟩|⟨g,m⟩
   all_goals
    have b:=vv g;clear g;go_wp2;go_ret;exact⟨q0o (by rw[r.o,t.o,i.o];first|(simp [q08,a.o];done)|(simp [q08,a.o,b.o];done)|(simp [q08,a.o,b.o,z.o];done)|(simp [q08,a.o,d.o rfl];done)|(simp [q08,a.o,b.o,d.o rfl];done)|(simp [q08,a.o,d.o trivial];done)|(simp [q08,a.o,b.o,d.o trivial];done)),l.o⟩
  ·have a:=vv f;have M:((kind:Int)==1)=qa:=by rw[k02];omega
   have U:((kind:Int)==2)=qb:=by rw[f];rfl
   clear f;go_wp2_with fail;rw[<- Z.o];refine(HT.o _ l.o).mono ?_;rintro e w1 ⟨rfl,j⟩;have k:=vv (k.o.below j);have l:=vn l j;clear j D E F G H I J K c8 L;obtain⟨D,E,F,G,H,I,J,K,c8,L⟩:=k.o;cases u<;>(try cases hneg)<;>cases neg<;>rcases zero_or p with ⟨g,m⟩|⟨g,m⟩
   all_goals
    have b:=vv g;clear g;go_wp2;go_ret;exact⟨q0o (by rw[r.o,t.o,i.o];first|(simp [q08,a.o];done)|(simp [q08,a.o,b.o];done)|(simp [q08,a.o,b.o,z.o];done)|(simp [q08,a.o,d.o rfl];done)|(simp [q08,a.o,b.o,d.o rfl];done)|(simp [q08,a.o,d.o trivial];done)|(simp [q08,a.o,b.o,d.o trivial];done)),l.o⟩
  ·have a:=vv f;have M:((kind:Int)==1)=qa:=by rw[k02];omega
   have U:((kind:Int)==2)=qa:=by rw[k02];omega
   have t3:((kind:Int)==3)=qb:=by rw[f];rfl
   clear f;rcases zero_or p with ⟨g,m⟩|⟨g,m⟩;all_goals
    have b:=vv g;clear g;go_wp2;go_ret;exact⟨q0o (by rw[r.o,t.o,i.o];first|(simp [q08,a.o];done)|(simp [q08,a.o,b.o];done)|(simp [q08,a.o,b.o,z.o];done)|(simp [q08,a.o,d.o rfl];done)|(simp [q08,a.o,b.o,d.o rfl];done)|(simp [q08,a.o,d.o trivial];done)|(simp [q08,a.o,b.o,d.o trivial];done)),R.o⟩
  ·have a:=vv f;have M:((kind:Int)==1)=qa:=by rw[k02];omega
   have U:((kind:Int)==2)=qa:=by rw[k02];omega
   have t3:((kind:Int)==3)=qa:=by rw[k02];omega
   have t4:((kind:Int)==4)=qb:=by rw[f];rfl
   clear f;rcases qaj p with ⟨g,m⟩|⟨g,m⟩;all_goals
    have b:=vv g;clear g;go_wp2;go_ret;exact⟨q0o (by rw[r.o,t.o,i.o];first|(simp [q08,a.o];done)|(simp [q08,a.o,b.o];done)|(simp [q08,a.o,b.o,z.o];done)|(simp [q08,a.o,d.o rfl];done)|(simp [q08,a.o,b.o,d.o rfl];done)|(simp [q08,a.o,d.o trivial];done)|(simp [q08,a.o,b.o,d.o trivial];done)),R.o⟩
  ·have M:((kind:Int)==1)=qa:=by rw[k02];omega
   have U:((kind:Int)==2)=qa:=by rw[k02];omega
   have t3:((kind:Int)==3)=qa:=by rw[k02];omega
   have t4:((kind:Int)==4)=qa:=by rw[k02];omega
   all_goals
    go_wp2;go_ret;exact⟨q0o (by rw[r.o,t.o,i.o];simp [q08,q1,q2,q3,q4]),R.o⟩
end Lex
end Go.Proofs.YthopehoklmgphaaGreatDoor
