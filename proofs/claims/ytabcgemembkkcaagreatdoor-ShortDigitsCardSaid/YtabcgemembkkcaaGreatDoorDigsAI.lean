/- Lemmas. -/
import Derived.Test.YtabcgemembkkcaaGreatDoorProg
import Derived.Test.YtabcgemembkkcaaGreatDoorDigsAF
import Derived.Laws.CopyOwn
import Derived.BigQuiet
set_option linter.all false
set_option maxHeartbeats 1000000
set_option maxRecDepth 100000
open Go.Proofs.Tryz
open Go.Proofs.Tryz renaming prog->qa
open Go renaming RowKit.Below.refl->qb,World->qe,Calls->qg,Addr->qh
open Decidable renaming decide->qc
open Option renaming none->qd,some->qf
namespace Go.Proofs.YtabcgemembkkcaaGreatDoor
variable{fq:FuncId}
namespace AB
open Go Go.RowKit
theorem inf:(Tryz.prog.info? 54).map (fun i=>(i.zero,i.size,i.bytes))=qf (qf (.int .u32 0),1,4):=by kernel_rfl
def TrimPost(A:Option qh)(c:Nat)(xs:List Nat)(w:qe)(e:Ending)(w':qe):Prop:=
 ∃m:Nat,e=.returned (.slice A m c)/\w=w'/\Rd w A m c (toL (val xs))
theorem trim(A:Option qh)(n c:Nat)(xs:List Nat)(w:qe)(hr:Rd w A n c xs)(hq:fq=259\/fq=189:=by decide):qg qa fq #[.slice A n c] w (TrimPost A c xs w):=by
 have q:=hr.sm;have r:=hr.len;have s:=hr.le;rcases hq with rfl|rfl;go_enter func259,ntmps259;rotate_left;go_enter func189,ntmps189;rotate_left;all_goals
  go_wp2;go_loop [3] (fun t=>∃k:Nat,k<=n/\t=.int .i64 k/\∀i,k<=i->nth xs i=0) (fun t=>(intOf t).toNat)
  case atStart=>exact⟨n,lr,rfl,fun i hi=>q0U xs i (by omega)⟩
  case round =>
   obtain⟨k,v,rfl,d⟩:=hrel;have fin:∀m,m<=n->(∀i,m<=i->nth xs i=0)->(m=0\/nth xs (m-1)≠0)->Rd w A m c (toL (val xs)):=by intro m p a f;have e:=q1C hr.lim (n:=m) a (f.imp id fun h=>⟨by omega,h⟩);rw[<- e];exact hr.take p
   have j:=vv fin;clear fin;rcases k01 k with rfl|u
   ·go_wp2;go_ret;exact⟨0,rfl,rfl,j.o 0 (k0x _) d (.inl rfl)⟩
   ·obtain⟨m,rfl⟩:∃m,k=m+1:=⟨k-1,by omega⟩;obtain⟨b,off,rfl,x,l⟩:=hr.cell (by omega);have hx:=l m (by omega);clear l;by_cases a:nth xs m=0
    ·have f:(((nth xs m:Nat):Int)==0)=true:=by rw[a];rfl
     have g:=vv a;clear a;go_wp2;go_round
     case rel=>exact⟨m,by omega,by go_num,fun i hi=>by
      rcases k1W hi with rfl|h
      ·exact g.o
      ·exact d i (by omega)⟩
     case measure=>simp [intOf]
    ·have f:(((nth xs m:Nat):Int)==0)=false:=by rw[k05];omega
     have g:=vv a;clear a;go_wp2;go_ret;exact⟨m+1,rfl,rfl,j.o _ (by omega) d (.inr g.o)⟩
theorem mk(n:Nat)(h:n<=35184372088832)(w:qe):(Instr.makeSlice 35 (.int .i64 (n:Int)) (.int .i64 (n:Int))).run qa w=.ok (.slice (qf ⟨w.heap.size,0,qd⟩) n n) (w.alloc (.cells (madeCells #[.int .u32 0] n) 54)):=run_make_row' (P:=qa) 35 54 (.int .u32 0) 4 underlying35 inf rfl .i64 .i64 n (by omega) (by omega) w
theorem mk1(n:Nat)(h:n+1<=35184372088832)(w:qe):(Instr.makeSlice 35 (.int .i64 ((n:Int)+1)) (.int .i64 ((n:Int)+1))).run qa w=.ok (.slice (qf ⟨w.heap.size,0,qd⟩) (n+1) (n+1)) (w.alloc (.cells (madeCells #[.int .u32 0] (n+1)) 54)):=mk (n+1) h w
theorem copied(A:Option qh)(n c:Nat)(xs:List Nat)(w:qe)(hr:Rd w A n c xs)(hq:fq=179\/fq=100:=by decide):qg qa fq #[.slice A n c] w fun e w'=>e=.returned (.slice (qf ⟨w.heap.size,0,qd⟩) n n)/\Own w' w.heap.size 54 xs/\Below w.heap.size w w':=by
 have f:=mk n hr.sm;have r:=hr.sm;have h:=vv (Own.made w n 54).heap;have i:=vv (hr.below ((qb _ w).alloc lr (.cells (madeCells #[.int .u32 0] n) 54)) rfl);have j:Hid (Below w.heap.size w (w.alloc (.cells (madeCells #[.int .u32 0] n) 54))):=vv ((qb _ w).alloc lr _);have a:=vv hr.len;have k:Hid ((q0k xs).length=Nat.min n n):=vv (by simp [q0k,a.o]);have l:Hid (0+(q0k xs).length<=(q0k (List.replicate n 0)).length):=vv (by simp [q0k,a.o]);have m:Hid ((Tryz.prog.info? 54).map (·.size)=qf 1):=vv (by kernel_rfl);have p:=vv (i.o.copyPos (d:=qf ⟨w.heap.size,0,qd⟩) rfl);rcases hq with rfl|rfl;go_enter func179,ntmps179;rotate_left;go_enter func100,ntmps100;rotate_left;all_goals
  go_wp2_with (with_reducible refine wpList_copy_splice (o:=⟨qf 9,_,_,_,_,_⟩) rfl _ _ 35 35 rfl 54 underlying35 m.o _ _ n n n c rfl rfl w.heap.size 0 _ 54 h.o (q0k xs) k.o p.o l.o (q1B xs) w.heap.size w j.o lr ?_);intro w' b q;have e:(splice (q0k (List.replicate n 0)) 0 (q0k xs))=q0k xs:=by unfold splice;rw[k2Z,k25,k0V (by simp [q0k,a.o]),List.append_nil]
  have g:Own w' w.heap.size 54 xs:=Own.of_heap (by have:=b.o;rw[e] at this;exact this) hr.lim;clear b f e;go_wp2;go_ret;exact⟨rfl,g,q⟩
theorem fromUint(x:Nat)(w:qe)(hx:x<18446744073709551616)(hq:fq=261\/fq=166:=by decide):qg qa fq #[.int .u64 (x:Int)] w (q0g x w):=by
 rcases hq with rfl|rfl;go_enter func261,ntmps261;rotate_left;go_enter func166,ntmps166;rotate_left;all_goals
  go_wp2_with fail;have b:Own (w.alloc (.cells #[.int .u32 ((x:Int)%4294967296),.int .u32 ((x:Int)/4294967296)] 54)) w.heap.size 54 [x%4294967296,x/4294967296]:=Own.lit _ (q0y.2 ⟨k0i _ (by omega),q0y.2 ⟨by omega,q0L⟩⟩) (by simp [q0k]);refine(trim _ _ _ _ _ (b.rd (n:=2) (c:=2) rfl lr (by omega))).mono ?_;rintro e f ⟨d,rfl,rfl,a⟩;go_wp2;go_ret;refine⟨_,d,2,rfl,?_,Fr.at_ lr,(qb _ _).alloc lr _⟩;have e:val [x%4294967296,x/4294967296]=x:=by simp only[val];omega
  rw[e] at a;exact a
theorem toUint(A:Option qh)(n c:Nat)(xs:List Nat)(w:qe)(hr:Rd w A n c xs)(hq:fq=322\/fq=285:=by decide):qg qa fq #[.slice A n c] w fun e w'=>e=.returned (.int .u64 ((nth xs 0+4294967296*nth xs 1:Nat):Int))/\w=w':=by
 have j:=hr.sm;rcases k1K n 1 with h|h|h
 ·obtain rfl:n=0:=by omega
  rcases hq with rfl|rfl;go_enter func322,ntmps322;rotate_left;go_enter func285,ntmps285;rotate_left;all_goals
   go_wp2;go_ret;exact⟨by rw[q0U xs 0 (by rw[hr.len];omega),q0U xs 1 (by rw[hr.len];omega)];rfl,rfl⟩
 ·subst h;obtain⟨b,off,rfl,i,a⟩:=hr.cell (by omega);have d:=a 0 (by omega);rw[k1u] at d;have f:=hr.nth_lt 0;clear a;rcases hq with rfl|rfl;go_enter func322,ntmps322;rotate_left;go_enter func285,ntmps285;rotate_left;all_goals
   go_wp2;go_ret;exact⟨by rw[q0U xs 1 (by rw[hr.len];omega)];first|rfl|(have e:=qa0 (nth xs 0) 0 f (by omega);simp at e;simp [e]),rfl⟩
 ·obtain⟨b,off,rfl,i,a⟩:=hr.cell (by omega);have d:=a 0 (by omega);have k:=a 1 (by omega);rw[k1u] at d;have f:=hr.nth_lt 0;have g:=hr.nth_lt 1;clear a;rcases hq with rfl|rfl;go_enter func322,ntmps322;rotate_left;go_enter func285,ntmps285;rotate_left;all_goals
   go_wp2;go_ret;exact⟨q0X (qa0 _ _ f g),rfl⟩
theorem cmpWords(A B:Option qh)(n m c d:Nat)(xs ys:List Nat)(w:qe)(ha:Rd w A n c xs)(hb:Rd w B m d ys)(hx:xs=toL (val xs))(hy:ys=toL (val ys))(hq:fq=280\/fq=206:=by decide):qg qa fq #[.slice A n c,.slice B m d] w fun e w'=>e=.returned (.int .i64 (q14 (val xs) (val ys)))/\Below w.heap.size w w':=by
 have L:=ha.sm;have M:=hb.sm;have l:words (val xs)=n:=by unfold words;rw[<- hx,ha.len]
 have q:words (val ys)=m:=by unfold words;rw[<- hy,hb.len]
 have x:=vv l;have y:=vv q;clear l q;clear hx hy;rcases k1K n m with h|h|h
 ·have C:=vv (q1G (q1U (a:=val xs) (b:=val ys) (by rw[x.o,y.o];exact h)));rcases hq with rfl|rfl;go_enter func280,ntmps280;rotate_left;go_enter func206,ntmps206;rotate_left;all_goals
   go_wp2;go_ret;exact⟨q0X C.o.symm,qb _ _⟩
 ·subst h;rcases hq with rfl|rfl;go_enter func280,ntmps280;rotate_left;go_enter func206,ntmps206;rotate_left;all_goals
   go_wp2;go_loopw [5] (fun i wr=>∃(z:Int) (k:Nat),i=.int .i64 z/\z+1=k/\k<=n/\val (xs.drop k)=val (ys.drop k)/\Below w.heap.size w wr) (fun i _=>(intOf i+1).toNat)
   case atStart=>exact⟨_,n,rfl,by omega,lr,by rw[k0V (by rw[ha.len];omega),k0V (by rw[hb.len];omega)],qb _ _⟩
   case round =>
    obtain⟨z,k,rfl,D,Q,r,f⟩:=hrel;have g:=vv r;clear r;rcases k01 k with rfl|N
    ·obtain rfl:z = -1:=by omega
     have C:=vv (q4u (a:=val xs) (b:=val ys) (by have:=g.o;simpa using this));clear D;go_wp2;go_ret;exact⟨q0X C.o.symm,f⟩
    ·obtain⟨j,rfl⟩:∃j,k=j+1:=⟨k-1,by omega⟩;obtain rfl:z=(j:Int):=by omega
     clear D;obtain⟨b,off,rfl,F,s⟩:=ha.cell (by omega);have O:wr.cell? ⟨b,off+j,qd⟩=qf (.int .u32 ((nth xs j:Nat):Int)):=(f.cell (p:=⟨b,off+j,qd⟩) F).trans (s j (by omega));clear s;obtain⟨E,t,rfl,G,u⟩:=hb.cell (by omega);have P:wr.cell? ⟨E,t+j,qd⟩=qf (.int .u32 ((nth ys j:Nat):Int)):=(f.cell (p:=⟨E,t+j,qd⟩) G).trans (u j (by omega));clear u;have R:(j:Int)<(n:Int):=by omega
     have S:(0:Int)<=(j:Int):=by omega
     rcases k1K (nth xs j) (nth ys j) with H|v|I
     ·have C:=vv (q1G (q2C ha.lim (by rw[ha.len];omega) (by rw[hb.len];omega) g.o H));go_wp2_with fail;go_quiet (fail);go_wp2;go_ret;exact⟨q0X C.o.symm,q0n f _⟩
     ·have J:qc (nth xs j<nth ys j)=false:=by simp;omega
      have T:qc (nth ys j<nth xs j)=false:=by simp;omega
      have K:Hid (val (xs.drop j)=val (ys.drop j)):=vv (by rw[q0t xs,q0t ys,g.o,v]);clear v;go_wp2_with fail;go_quiet (fail);go_wp2_with fail;go_quiet (fail);go_wp2;go_roundw
      case rel=>exact⟨_,j,rfl,by omega,by omega,K.o,q0n f _⟩
      case measure=>simp [intOf]
     ·have C:=vv (q2p (q2C hb.lim (by rw[hb.len];omega) (by rw[ha.len];omega) g.o.symm I));have J:qc (nth xs j<nth ys j)=false:=by simp;omega
      go_wp2_with fail;go_quiet (fail);go_wp2_with fail;go_quiet (fail);go_wp2;go_ret;exact⟨q0X C.o.symm,q0n (q0n f _) _⟩
 ·have C:=vv (q2p (q1U (a:=val ys) (b:=val xs) (by rw[x.o,y.o];exact h)));have U:qc (n<m)=false:=by simp;omega
  rcases hq with rfl|rfl;go_enter func280,ntmps280;rotate_left;go_enter func206,ntmps206;rotate_left;all_goals
   go_wp2;go_ret;exact⟨q0X C.o.symm,qb _ _⟩
theorem addWords_ge(A B:Option qh)(n m c d:Nat)(xs ys:List Nat)(w:qe)(ha:Rd w A n c xs)(hb:Rd w B m d ys)(hn:n<=17592186044416)(hm:m<=n)(hq:fq=264\/fq=184:=by decide):qg qa fq #[.slice A n c,.slice B m d] w (q0g (val xs+val ys) w):=by
 have O:=mk1 n (by omega);rcases hq with rfl|rfl;go_enter func264,ntmps264;rotate_left;go_enter func184,ntmps184;rotate_left;all_goals
  go_wp2;go_loopw [6,7] (fun q i wr=>∃(k y:Nat) (U:List Nat),i=.int .i64 k/\k<=n/\q=.int .u64 y/\y<=1/\U.length=n+1/\Own wr w.heap.size 54 U /\val (U.take k)+4294967296^k*y=val (xs.take k)+val (ys.take k)/\Below w.heap.size w wr) (fun _ i _=>n-(intOf i).toNat)
  case atStart=>exact⟨0,0,List.replicate (n+1) 0,rfl,k0x _,rfl,by omega,by simp,Own.made _ _ _,by simp [val],(qb _ _).alloc lr _⟩
  case round =>
   obtain⟨k,y,U,rfl,S,rfl,T,h,f,s,g⟩:=hrel;have j:=vv s;clear s;have a:=vv h;have V:=f.lt;by_cases hkn:k<n
   ·obtain⟨b,off,rfl,F,t⟩:=ha.cell (by omega);have hx:wr.cell? ⟨b,off+k,qd⟩=qf (.int .u32 ((nth xs k:Nat):Int)):=(g.cell (p:=⟨b,off+k,qd⟩) F).trans (t k hkn);clear t;have P:=ha.nth_lt k;have J:=f.cell (i:=k) (by omega);have K:=f.frozen k;clear h;by_cases hkm:k<m
    ·obtain⟨D,u,rfl,G,v⟩:=hb.cell (by omega);have Q:wr.cell? ⟨D,u+k,qd⟩=qf (.int .u32 ((nth ys k:Nat):Int)):=(g.cell (p:=⟨D,u+k,qd⟩) G).trans (v k hkm);clear v;have R:=hb.nth_lt k;go_wp2;go_roundw
     case rel=>exact⟨k+1,(nth xs k+y+nth ys k)/4294967296,U.set k ((nth xs k+y+nth ys k)%4294967296),by go_num,by omega,by go_num,by omega,by rw[k0c];exact a.o,f.set (by rw[a.o];omega) (k0i _ (by omega)) (by omega),q1Z (by rw[a.o];omega) j.o,g.setCell lr _⟩
     case measure=>simp [intOf];omega
    ·have E:nth ys k=0:=q0U ys k (by rw[hb.len];omega);have r:=vv E;clear E;go_wp2;go_roundw
     case rel=>exact⟨k+1,(nth xs k+y+nth ys k)/4294967296,U.set k ((nth xs k+y+nth ys k)%4294967296),by go_num,by omega,by rw[r.o];go_num,by rw[r.o];omega,by rw[k0c];exact a.o,f.set (by rw[a.o];omega) (k0i _ (by omega)) (by rw[r.o];omega),q1Z (by rw[a.o];omega) j.o,g.setCell lr _⟩
     case measure=>simp [intOf];omega
   ·obtain rfl:k=n:=by omega
    have J:=f.cell (i:=k) (by omega);have K:=f.frozen k;clear h;have C:=f.set (i:=k) (x:=y) (z:=(y:Int)) (by rw[a.o];omega) (by omega) rfl;have L:=vv (C.rd (n:=k+1) (c:=k+1) (by rw[k0c,a.o]) lr (by omega));have H:=g.setCell (p:=⟨w.heap.size,k,qd⟩) lr (.int .u32 (y:Int));clear C;go_wp2_with fail;refine(trim _ _ _ _ _ L.o).mono ?_;rintro e W ⟨M,rfl,rfl,I⟩;go_wp2;go_ret;refine⟨_,M,k+1,rfl,?_,Fr.at_ lr,H⟩;have e:val (U.set k y)=val xs+val ys:=by have:=q0j U k y (by rw[a.o];omega);have N:=j.o;rw[k0D (by rw[k0c,a.o];omega)] at this;rw[k0D (l:=xs) (by rw[ha.len];omega),k0D (l:=ys) (by rw[hb.len];omega)] at N;omega
    rw[<- e];exact I
theorem addWords_lt(A B:Option qh)(n m c d:Nat)(xs ys:List Nat)(w:qe)(ha:Rd w A n c xs)(hb:Rd w B m d ys)(hn:n<=17592186044416)(hm:m<n)(hq:fq=264\/fq=184:=by decide):qg qa fq #[.slice B m d,.slice A n c] w (q0g (val xs+val ys) w):=by
 have O:=mk1 n (by omega);rcases hq with rfl|rfl;go_enter func264,ntmps264;rotate_left;go_enter func184,ntmps184;rotate_left;all_goals
  go_wp2;go_loopw [6,7] (fun q i wr=>∃(k y:Nat) (U:List Nat),i=.int .i64 k/\k<=n/\q=.int .u64 y/\y<=1/\U.length=n+1/\Own wr w.heap.size 54 U /\val (U.take k)+4294967296^k*y=val (xs.take k)+val (ys.take k)/\Below w.heap.size w wr) (fun _ i _=>n-(intOf i).toNat)
  case atStart=>exact⟨0,0,List.replicate (n+1) 0,rfl,k0x _,rfl,by omega,by simp,Own.made _ _ _,by simp [val],(qb _ _).alloc lr _⟩
  case round =>
   obtain⟨k,y,U,rfl,S,rfl,T,h,f,s,g⟩:=hrel;have j:=vv s;clear s;have a:=vv h;have V:=f.lt;by_cases hkn:k<n
   ·obtain⟨b,off,rfl,F,t⟩:=ha.cell (by omega);have hx:wr.cell? ⟨b,off+k,qd⟩=qf (.int .u32 ((nth xs k:Nat):Int)):=(g.cell (p:=⟨b,off+k,qd⟩) F).trans (t k hkn);clear t;have P:=ha.nth_lt k;have J:=f.cell (i:=k) (by omega);have K:=f.frozen k;clear h;by_cases hkm:k<m
    ·obtain⟨D,u,rfl,G,v⟩:=hb.cell (by omega);have Q:wr.cell? ⟨D,u+k,qd⟩=qf (.int .u32 ((nth ys k:Nat):Int)):=(g.cell (p:=⟨D,u+k,qd⟩) G).trans (v k hkm);clear v;have R:=hb.nth_lt k;go_wp2;go_roundw
     case rel=>exact⟨k+1,(nth xs k+y+nth ys k)/4294967296,U.set k ((nth xs k+y+nth ys k)%4294967296),by go_num,by omega,by go_num,by omega,by rw[k0c];exact a.o,f.set (by rw[a.o];omega) (k0i _ (by omega)) (by omega),q1Z (by rw[a.o];omega) j.o,g.setCell lr _⟩
     case measure=>simp [intOf];omega
    ·have E:nth ys k=0:=q0U ys k (by rw[hb.len];omega);have r:=vv E;clear E;go_wp2;go_roundw
     case rel=>exact⟨k+1,(nth xs k+y+nth ys k)/4294967296,U.set k ((nth xs k+y+nth ys k)%4294967296),by go_num,by omega,by rw[r.o];go_num,by rw[r.o];omega,by rw[k0c];exact a.o,f.set (by rw[a.o];omega) (k0i _ (by omega)) (by rw[r.o];omega),q1Z (by rw[a.o];omega) j.o,g.setCell lr _⟩
     case measure=>simp [intOf];omega
   ·obtain rfl:k=n:=by omega
    have J:=f.cell (i:=k) (by omega);have K:=f.frozen k;clear h;have C:=f.set (i:=k) (x:=y) (z:=(y:Int)) (by rw[a.o];omega) (by omega) rfl;have L:=vv (C.rd (n:=k+1) (c:=k+1) (by rw[k0c,a.o]) lr (by omega));have H:=g.setCell (p:=⟨w.heap.size,k,qd⟩) lr (.int .u32 (y:Int));clear C;go_wp2_with fail;refine(trim _ _ _ _ _ L.o).mono ?_;rintro e W ⟨M,rfl,rfl,I⟩;go_wp2;go_ret;refine⟨_,M,k+1,rfl,?_,Fr.at_ lr,H⟩;have e:val (U.set k y)=val xs+val ys:=by have:=q0j U k y (by rw[a.o];omega);have N:=j.o;rw[k0D (by rw[k0c,a.o];omega)] at this;rw[k0D (l:=xs) (by rw[ha.len];omega),k0D (l:=ys) (by rw[hb.len];omega)] at N;omega
    rw[<- e];exact I
theorem addWords(A B:Option qh)(n m c d:Nat)(xs ys:List Nat)(w:qe)(ha:Rd w A n c xs)(hb:Rd w B m d ys)(hn:n<=17592186044416)(hm:m<=17592186044416)(hq:fq=264\/fq=184:=by decide):qg qa fq #[.slice A n c,.slice B m d] w (q0g (val xs+val ys) w):=by
 rcases k0A n m with h|h
 ·rw[k0Z];exact addWords_lt (hq:=hq) B A m n d c ys xs w hb ha hm h
 ·exact addWords_ge (hq:=hq) A B n m c d xs ys w ha hb hn h
theorem subWords(A B:Option qh)(n m c d:Nat)(xs ys:List Nat)(w:qe)(ha:Rd w A n c xs)(hb:Rd w B m d ys)(hle:val ys<=val xs)(hm:m<=n)(hq:fq=265\/fq=272:=by decide):qg qa fq #[.slice A n c,.slice B m d] w (q0g (val xs-val ys) w):=by
 have I:=mk n ha.sm;have J:=ha.sm;rcases hq with rfl|rfl;go_enter func265,ntmps265;rotate_left;go_enter func272,ntmps272;rotate_left;all_goals
  go_wp2;go_loopw [6,7] (fun q i wr=>∃(k y:Nat) (U:List Nat),i=.int .i64 k/\k<=n/\q=.int .u64 y/\y<=1/\U.length=n/\Own wr w.heap.size 54 U /\val (U.take k)+val (ys.take k)=val (xs.take k)+4294967296^k*y/\Below w.heap.size w wr) (fun _ i _=>n-(intOf i).toNat)
  case atStart=>exact⟨0,0,List.replicate n 0,rfl,k0x _,rfl,by omega,by simp,Own.made _ _ _,by simp [val],(qb _ _).alloc lr _⟩
  case round =>
   obtain⟨k,y,U,rfl,L,rfl,v,j,f,l,g⟩:=hrel;have h:=vv l;clear l;have a:=vv j;have M:=f.lt;by_cases hkn:k<n
   ·obtain⟨b,off,rfl,C,r⟩:=ha.cell (by omega);have hx:wr.cell? ⟨b,off+k,qd⟩=qf (.int .u32 ((nth xs k:Nat):Int)):=(g.cell (p:=⟨b,off+k,qd⟩) C).trans (r k hkn);clear r;have s:=ha.nth_lt k;have N:=f.cell (i:=k) (by omega);have O:=f.frozen k;clear j;by_cases hkm:k<m
    ·obtain⟨x,t,rfl,D,u⟩:=hb.cell (by omega);have K:wr.cell? ⟨x,t+k,qd⟩=qf (.int .u32 ((nth ys k:Nat):Int)):=(g.cell (p:=⟨x,t+k,qd⟩) D).trans (u k hkm);clear u;have E:=hb.nth_lt k;by_cases h1:nth ys k+y<=nth xs k
     ·go_wp2;go_roundw
      case rel=>exact⟨k+1,0,U.set k (nth xs k-y-nth ys k),by go_num,by omega,by go_num,by omega,by rw[k0c];exact a.o,f.set (by rw[a.o];omega) (by omega) (by omega),q35 (by rw[a.o];omega) h.o (by omega),g.setCell lr _⟩
      case measure=>simp [intOf];omega
     ·have S:=vv (qdk (nth xs k) y (nth ys k) s v E (nth xs k+4294967296-y-nth ys k) 1 (by omega) (by omega) (by omega));go_wp2;go_roundw
      case rel=>exact⟨k+1,1,U.set k (nth xs k+4294967296-y-nth ys k),by go_num,by omega,k0z _ S.o.1,by omega,by rw[k0c];exact a.o,f.set (by rw[a.o];omega) (by omega) S.o.2,q35 (by rw[a.o];omega) h.o (by omega),g.setCell lr _⟩
      case measure=>simp [intOf];omega
    ·have z:=vv (q0U ys k (by rw[hb.len];omega));by_cases h1:y<=nth xs k
     ·go_wp2;go_roundw
      case rel=>exact⟨k+1,0,U.set k (nth xs k-y),by go_num,by omega,by go_num,by omega,by rw[k0c];exact a.o,f.set (by rw[a.o];omega) (by omega) (by omega),q35 (by rw[a.o];omega) h.o (by rw[z.o];omega),g.setCell lr _⟩
      case measure=>simp [intOf];omega
     ·have S:=vv (qc0 (nth xs k) y s v (nth xs k+4294967296-y) 1 (by omega) (by omega) (by omega));go_wp2;go_roundw
      case rel=>exact⟨k+1,1,U.set k (nth xs k+4294967296-y),by go_num,by omega,k0z _ S.o.1,by omega,by rw[k0c];exact a.o,f.set (by rw[a.o];omega) (by omega) S.o.2,q35 (by rw[a.o];omega) h.o (by rw[z.o];omega),g.setCell lr _⟩
      case measure=>simp [intOf];omega
   ·obtain rfl:k=n:=by omega
    clear j;have G:=vv (f.rd (n:=k) (c:=k) a.o.symm lr (by omega));go_wp2_with fail;refine(trim _ _ _ _ _ G.o).mono ?_;rintro e P ⟨H,rfl,rfl,F⟩;go_wp2;go_ret;refine⟨_,H,k,rfl,?_,Fr.at_ lr,g⟩;rw[<- q91 a.o (by rw[ha.len];omega) (by rw[hb.len];omega) f.2 hle h.o];exact F
end AB
namespace A
open AB
open Go Go.RowKit
def trim:=@AB.trim 259
def copied:=@AB.copied 179
def fromUint:=@AB.fromUint 261
def toUint:=@AB.toUint 322
def cmpWords:=@AB.cmpWords 280
end A
namespace A
open AB
open Go Go.RowKit
def addWords_ge:=@AB.addWords_ge 264
def addWords_lt:=@AB.addWords_lt 264
def addWords:=@AB.addWords 264
def subWords:=@AB.subWords 265
end A
namespace B
open AB
open Go Go.RowKit
def trim:=@AB.trim 189
def copied:=@AB.copied 100
def fromUint:=@AB.fromUint 166
def toUint:=@AB.toUint 285
def cmpWords:=@AB.cmpWords 206
end B
namespace B
open AB
open Go Go.RowKit
def addWords_ge:=@AB.addWords_ge 184
def addWords_lt:=@AB.addWords_lt 184
def addWords:=@AB.addWords 184
def subWords:=@AB.subWords 272
end B
namespace AB
open Go Go.RowKit
theorem plain(A B:Option qh)(n m c d:Nat)(xs ys:List Nat)(w:qe)(ha:Rd w A n c xs)(hb:Rd w B m d ys)(hs:n+m<=35184372088832)(hq:fq=262\/fq=270:=by decide):qg qa fq #[.slice A n c,.slice B m d] w (q0g (val xs*val ys) w):=by
 have L:=mk (n+m) hs;have H:((n+m:Nat):Int)=(n:Int)+(m:Int):=by omega
 rw[H] at L;clear H;rcases hq with rfl|rfl;go_enter func262,ntmps262;rotate_left;go_enter func270,ntmps270;rotate_left;all_goals
  go_wp2;go_loopw [6] (fun i wr=>∃(k:Nat) (U:List Nat),i=.int .i64 k/\k<=n/\U.length=n+m/\Own wr w.heap.size 54 U /\val (U.take (k+m))=val (xs.take k)*val ys/\Below w.heap.size w wr) (fun i _=>n-(intOf i).toNat)
  case atStart=>exact⟨0,List.replicate (n+m) 0,rfl,k0x _,by simp,Own.made _ _ _,by simp [val,k2k,q0d],(qb _ _).alloc lr _⟩
  case round =>
   obtain⟨k,U,rfl,hk,t,u,g,h⟩:=hrel;have I:=vv g;have r:=vv t;clear g t;obtain⟨wo,rfl⟩:∃wo:qe,wo=wr:=⟨_,rfl⟩;by_cases hkn:k<n
   ·obtain⟨b,off,rfl,M,v⟩:=ha.cell (by omega);have hx:wo.cell? ⟨b,off+k,qd⟩=qf (.int .u32 ((nth xs k:Nat):Int)):=(h.cell (p:=⟨b,off+k,qd⟩) M).trans (v k hkn);clear v;have x:=ha.nth_lt k;go_wp2;go_loopw [7,9] (fun q i wr=>∃(j y:Nat) (V:List Nat),i=.int .i64 j/\j<=m/\q=.int .u64 y/\y<4294967296/\V.length=n+m/\Own wr w.heap.size 54 V /\(∀p,k+j<=p->nth V p=nth U p)/\val (V.take (k+j))+4294967296^(k+j)*y=val (U.take (k+j))+4294967296^k*(nth xs k*val (ys.take j))/\Below w.heap.size w wr) (fun _ i _=>m-(intOf i).toNat)
    case atStart=>exact⟨0,0,U,rfl,k0x _,rfl,by omega,r.o,u,fun _ _=>rfl,by simp [val],h⟩
    case round =>
     clear hx;obtain⟨j,y,V,rfl,hj,rfl,P,z,a,C,g,l⟩:=hrel;have D:=vv g;have f:=vv z;have J:=vv C;clear g z C;have hg:=a.lt;by_cases hjm:j<m
     ·obtain⟨K,E,rfl,N,F⟩:=hb.cell (by omega);have Y:wr.cell? ⟨K,E+j,qd⟩=qf (.int .u32 ((nth ys j:Nat):Int)):=(l.cell (p:=⟨K,E+j,qd⟩) N).trans (F j hjm);clear F;have G:=hb.nth_lt j;have Q:=a.cell (i:=k+j) (by rw[f.o];omega);have R:=a.frozen (k+j);have Z:=a.nth_lt (k+j);have a1:((nth xs k:Nat):Int)*((nth ys j:Nat):Int)<=18446744065119617025:=by have:=q1i x G;omega
      have a0:(0:Int)<=((nth xs k:Nat):Int)*((nth ys j:Nat):Int):=k18 (k0k _) (k0k _);have i1:(j:Int)<(m:Int):=by omega
      have i2:(0:Int)<=(j:Int):=by omega
      have i3:(k:Int)+(j:Int)<(n:Int)+(m:Int):=by omega
      have i4:(0:Int)<=(k:Int)+(j:Int):=by omega
      go_wp2_with fail;go_quiet (fail);have S:=vv (q1i x G);have s:=vv a;clear a;go_wp2;go_roundw
      case rel =>
       have T:(nth xs k*nth ys j+nth V (k+j)+y)/4294967296<4294967296:=by have:=S.o;omega
       refine⟨j+1,(nth xs k*nth ys j+nth V (k+j)+y)/4294967296,V.set (k+j) ((nth xs k*nth ys j+nth V (k+j)+y)%4294967296),by go_num,by omega,k0z _ (by omega),T,by rw[k0c];exact f.o,(s.o.drewN _).set (by rw[f.o];omega) (k0i _ (by omega)) (by omega),fun p hp=>?_,q4m (by rw[f.o];omega) (J.o _ lr) D.o,(q0n l _).setCell lr _⟩;rw[q0i _ _ (by omega)];exact J.o p (by omega)
      case measure=>simp [intOf];omega
     ·obtain rfl:j=m:=by omega
      have Q:=a.cell (i:=k+j) (by rw[f.o];omega);have R:=a.frozen (k+j);have s:=vv a;clear a;go_wp2;go_roundw
      case rel =>exact⟨k+1,V.set (k+j) y,by go_num,by omega,by rw[k0c];exact f.o,s.o.set (by rw[f.o];omega) P rfl,q5r hb.len (by rw[f.o];omega) I.o D.o,l.setCell lr _⟩
      case measure=>simp [intOf];omega
   ·obtain rfl:k=n:=by omega
    have W:=vv (u.rd (n:=k+m) (c:=k+m) r.o.symm lr (by omega));go_wp2_with fail;refine(trim _ _ _ _ _ W.o).mono ?_;rintro e w' ⟨X,rfl,rfl,O⟩;go_wp2;go_ret;refine⟨_,X,k+m,rfl,?_,Fr.at_ lr,h⟩;have e:=I.o;rw[q0f (xs:=U) (by rw[r.o];omega),q0f (xs:=xs) (by rw[ha.len];omega)] at e;rw[<- e];exact O
theorem addAt(g n c':Nat)(U:List Nat)(B:Option qh)(m d at_ N:Nat)(z:Int)(hz:z=(at_:Int))(w:qe)(ho:Own w g 54 U)(hn:U.length=n)(hs:n<=35184372088832)(hb:Rd w B m d (toL N))(hne:∀a,B=qf a->a.block≠g)
  (hat:at_<=n) (hfit:val U+4294967296^at_*N<4294967296^n) (hq:fq=263\/fq=271:=by decide) :
  qg qa fq #[.slice (qf ⟨g,0,qd⟩) n c',.slice B m d,.int .i64 z] w fun e w'=>e=.returned (.tuple #[]) /\(∃V:List Nat,Own w' g 54 V/\V.length=n/\val V=val U+4294967296^at_*N)/\w.grownBy w' (qf g):=by
 subst hz;have J:=vv hfit;have C:=vv hn;clear hfit hn;have M:=hb.sm;rcases hq with rfl|rfl;go_enter func263,ntmps263;rotate_left;go_enter func271,ntmps271;rotate_left;all_goals
  go_wp2;go_loopw [6,7] (fun q i wr=>∃(k y:Nat) (V:List Nat),i=.int .i64 k/\q=.int .u64 y/\y<=1/\k<=n/\V.length=n/\Own wr g 54 V /\(∀p,at_+k<=p->nth V p=nth U p)/\val (V.take (at_+k))+4294967296^(at_+k)*y=val (U.take (at_+k))+4294967296^at_*val ((toL N).take k)/\w.grownBy wr (qf g)) (fun _ i _=>n-(intOf i).toNat)
  case atStart=>exact⟨0,0,U,rfl,rfl,by omega,k0x _,C.o,ho,fun _ _=>rfl,by simp [val],World.grownBy.refl _ _⟩
  case round =>
   obtain⟨k,y,V,rfl,rfl,Q,R,t,f,u,l,j⟩:=hrel;have r:=vv l;have c:=vv t;have h:=vv u;have s:=vv f;have v:=vv hb.len;have D:=vv (fun hc=>q6Y J.o l (k:=k) (y:=y) hc);clear l t u;by_cases hkm:k<m
   ·have E:at_+k<n:=D.o (.inl (by rw[v.o];exact hkm));obtain⟨b,off,rfl,F,x⟩:=hb.cell (by omega);have G:b≠g:=hne _ rfl;have O:wr.cell? ⟨b,off+k,qd⟩=qf (.int .u32 ((nth (toL N) k:Nat):Int)):=(q1o j (p:=⟨b,off+k,qd⟩) F G).trans (x k hkm);clear x;have P:=hb.nth_lt k;have hx:=f.cell (i:=at_+k) (by rw[c.o];omega);have K:=f.frozen (at_+k);have H:=f.nth_lt (at_+k);clear f;go_wp2;go_roundw
    case rel =>refine⟨k+1,(nth V (at_+k)+y+nth (toL N) k)/4294967296,V.set (at_+k) ((nth V (at_+k)+y+nth (toL N) k)%4294967296),by go_num,k0z _ (by omega),by omega,by omega,by rw[k0c];exact c.o,s.o.set (by rw[c.o];omega) (k0i _ (by omega)) (by omega),fun p hp=>?_,q42 (by rw[c.o];omega) (h.o _ lr) r.o (by omega),only_setCell j (.inl rfl) _⟩;rw[q0i _ _ (by omega)];exact h.o p (by omega)
    case measure=>simp [intOf];omega
   ·have L:=vv (q0U (toL N) k (by rw[hb.len];omega));rcases k01 y with rfl|I
    ·go_wp2;go_end0;exact⟨rfl,⟨V,s.o,c.o,q6Z (by rw[c.o,C.o]) h.o (by rw[v.o];omega) r.o⟩,j⟩
    ·have E:at_+k<n:=D.o (.inr I);have hx:=f.cell (i:=at_+k) (by rw[c.o];omega);have K:=f.frozen (at_+k);have H:=f.nth_lt (at_+k);clear f;go_wp2;go_roundw
     case rel =>refine⟨k+1,(nth V (at_+k)+y)/4294967296,V.set (at_+k) ((nth V (at_+k)+y)%4294967296),by go_num,k0z _ (by omega),by omega,by omega,by rw[k0c];exact c.o,s.o.set (by rw[c.o];omega) (k0i _ (by omega)) (by omega),fun p hp=>?_,q42 (by rw[c.o];omega) (h.o _ lr) r.o (by rw[L.o];omega),only_setCell j (.inl rfl) _⟩;rw[q0i _ _ (by omega)];exact h.o p (by omega)
     case measure=>simp [intOf];omega
end AB
namespace B
open AB
open Go Go.RowKit
def plain:=@AB.plain 270
def addAt:=@AB.addAt 271
end B
namespace A
open AB
open Go Go.RowKit
def plain:=@AB.plain 262
def addAt:=@AB.addAt 263
end A
end Go.Proofs.YtabcgemembkkcaaGreatDoor
