/- Lemmas. -/
import Derived.Test.YtcdimmblnbkjjaaGreatDoorProg
import Derived.Test.YtcdimmblnbkjjaaGreatDoorPartAG
import Derived.Laws.CopyOwn
import Derived.Deep.QuietTactic
import Derived.BigQuiet
set_option linter.all false
set_option maxHeartbeats 400000
set_option maxRecDepth 100000
namespace Go.Proofs.YtcdimmblnbkjjaaGreatDoor.B
open Go Go.RowKit
theorem inf:(Tryz.prog.info? 34).map (fun i=>(i.zero,i.size,i.bytes))=some (some (.int .u32 0),1,4):=by kernel_rfl
def q5I(A:Option Addr)(c:Nat)(xs:List Nat)(w:World)(e:Ending)(w':World):Prop:=
 ∃m:Nat,e=.returned (.slice A m c)/\w=w'/\Rd w A m c (toL (val xs))
end Go.Proofs.YtcdimmblnbkjjaaGreatDoor.B
namespace Go.Proofs.YtcdimmblnbkjjaaGreatDoor.A
open Go Go.RowKit
theorem inf:(Tryz.prog.info? 34).map (fun i=>(i.zero,i.size,i.bytes))=some (some (.int .u32 0),1,4):=by kernel_rfl
def q5I(A:Option Addr)(c:Nat)(xs:List Nat)(w:World)(e:Ending)(w':World):Prop:=
 ∃m:Nat,e=.returned (.slice A m c)/\w=w'/\Rd w A m c (toL (val xs))
theorem q1T(A:Option Addr)(n c:Nat)(xs:List Nat)(w:World)(hr:Rd w A n c xs):
  Calls Tryz.prog 144 #[.slice A n c] w (q5I A c xs w):=by
 have a3:=hr.sm;have a1:=hr.len;have a4:=hr.le;go_enter Tryz.func144,Tryz.ntmps144
 go_wp2;go_loop [3] (fun t=>∃k:Nat,k<=n/\t=.int .i64 k/\∀i,k<=i->nth xs i=0) (fun t=>(intOf t).toNat)
 case atStart=>exact⟨n,lr,rfl,fun i hi=>q1i xs i (by omega)⟩
 case round =>
  obtain⟨k,hk,rfl,hz⟩:=hrel;have fin:∀m,m<=n->(∀i,m<=i->nth xs i=0)->(m=0\/nth xs (m-1)≠0)->Rd w A m c (toL (val xs)):=by
   intro m hm h0 h1;have e:=q1J hr.lim (n:=m) h0 (h1.imp id fun h=>⟨by omega,h⟩);rw[<- e];exact hr.take hm
  have Fin:=vv fin;clear fin;rcases Nat.eq_zero_or_pos k with rfl|a2
  ·go_wp2;go_ret
   exact⟨0,rfl,rfl,Fin.o 0 (Nat.zero_le _) hz (.inl rfl)⟩
  ·obtain⟨m,rfl⟩:∃m,k=m+1:=⟨k-1,by omega⟩;obtain⟨b,off,rfl,hb,a0⟩:=hr.cell (by omega);have hx:=a0 m (by omega);clear a0;by_cases h0:nth xs m=0
   ·have h1:(((nth xs m:Nat):Int)==0)=true:=by rw[h0];rfl
    have H0:=vv h0;clear h0;go_wp2;go_round
    case rel=>exact⟨m,by omega,by go_num,fun i hi=>by
     rcases Nat.eq_or_lt_of_le hi with rfl|h
     ·exact H0.o
     ·exact hz i (by omega)⟩
    case measure=>simp [intOf]
   ·have h1:(((nth xs m:Nat):Int)==0)=false:=by rw[beq_eq_false_iff_ne];omega
    have H0:=vv h0;clear h0;go_wp2;go_ret
    exact⟨m+1,rfl,rfl,Fin.o _ (by omega) hz (.inr H0.o)⟩
theorem mk(n:Nat)(h:n<=35184372088832)(w:World):(Instr.makeSlice 26 (.int .i64 (n:Int)) (.int .i64 (n:Int))).run Tryz.prog w=.ok (.slice (some ⟨w.heap.size,0,none⟩) n n) (w.alloc (.cells (madeCells #[.int .u32 0] n) 34)):=
 run_make_row' (P:=Tryz.prog) 26 34 (.int .u32 0) 4 Tryz.underlying26 inf rfl .i64 .i64 n (by omega) (by omega) w
theorem mk1(n:Nat)(h:n+1<=35184372088832)(w:World):(Instr.makeSlice 26 (.int .i64 ((n:Int)+1)) (.int .i64 ((n:Int)+1))).run Tryz.prog w=.ok (.slice (some ⟨w.heap.size,0,none⟩) (n+1) (n+1)) (w.alloc (.cells (madeCells #[.int .u32 0] (n+1)) 34)):=mk (n+1) h w
theorem q1P(A:Option Addr)(n c:Nat)(xs:List Nat)(w:World)(hr:Rd w A n c xs):
  Calls Tryz.prog 140 #[.slice A n c] w fun e w'=>e=.returned (.slice (some ⟨w.heap.size,0,none⟩) n n)/\Own w' w.heap.size 34 xs/\Below w.heap.size w w':=by
 have a1:=mk n hr.sm;have a2:=hr.sm;have H1:=vv (Own.made w n 34).heap;have H2:=vv (hr.below ((Below.refl _ w).alloc lr (.cells (madeCells #[.int .u32 0] n) 34)) rfl);have H3:Hid (Below w.heap.size w (w.alloc (.cells (madeCells #[.int .u32 0] n) 34))):=vv ((Below.refl _ w).alloc lr _);have HL:=vv hr.len;have Hl:Hid ((q0w xs).length=Nat.min n n):=vv (by simp [q0w,HL.o]);have Hf:Hid (0+(q0w xs).length<=(q0w (List.replicate n 0)).length):=vv (by simp [q0w,HL.o]);have Hs:Hid ((Tryz.prog.info? 34).map (·.size)=some 1):=vv (by kernel_rfl);have Hp:=vv (H2.o.copyPos (d:=some ⟨w.heap.size,0,none⟩) rfl);go_enter Tryz.func140,Tryz.ntmps140
 go_wp2_with (with_reducible refine wpList_copy_splice (o:=⟨some 9,_,_,_,_,_⟩) rfl _ _ 26 26 rfl 34 Tryz.underlying26 Hs.o _ _ n n n c rfl rfl w.heap.size 0 _ 34 H1.o (q0w xs) Hl.o Hp.o Hf.o (q3S xs) w.heap.size w H3.o lr ?_)
 intro w' hh hb;have e:(splice (q0w (List.replicate n 0)) 0 (q0w xs))=q0w xs:=by
  unfold splice;rw[List.take_zero,List.nil_append,List.drop_of_length_le (by simp [q0w,HL.o]),List.append_nil]
 have a0:Own w' w.heap.size 34 xs:=Own.of_heap (by have:=hh.o;rw[e] at this;exact this) hr.lim;clear hh a1 e;go_wp2;go_ret
 exact⟨rfl,a0,hb⟩
theorem q43(x:Nat)(w:World)(hx:x<18446744073709551616):
  Calls Tryz.prog 145 #[.int .u64 (x:Int)] w (q0e x w):=by
 go_enter Tryz.func145,Tryz.ntmps145
 go_wp2_with fail
 have a0:Own (w.alloc (.cells #[.int .u32 ((x:Int)%4294967296),.int .u32 ((x:Int)/4294967296)] 34)) w.heap.size 34 [x%4294967296,x/4294967296]:=
  Own.lit _ (q0B.2 ⟨Nat.mod_lt _ (by omega),q0B.2 ⟨by omega,q11⟩⟩) (by simp [q0w])
 refine(q1T _ _ _ _ _ (a0.rd (n:=2) (c:=2) rfl lr (by omega))).mono ?_;rintro e w' ⟨m',rfl,rfl,a1⟩;go_wp2;go_ret
 refine⟨_,m',2,rfl,?_,Fr.at_ lr,(Below.refl _ _).alloc lr _⟩;have e:val [x%4294967296,x/4294967296]=x:=by simp only[val];omega
 rw[e] at a1;exact a1
theorem q6w(A:Option Addr)(n c:Nat)(xs:List Nat)(w:World)(hr:Rd w A n c xs):
  Calls Tryz.prog 200 #[.slice A n c] w fun e w'=>e=.returned (.int .u64 ((nth xs 0+4294967296*nth xs 1:Nat):Int))/\w=w':=by
 have a1:=hr.sm;rcases Nat.lt_trichotomy n 1 with h|h|h
 ·obtain rfl:n=0:=by omega
  go_enter Tryz.func200,Tryz.ntmps200
  go_wp2;go_ret
  exact⟨by rw[q1i xs 0 (by rw[hr.len];omega),q1i xs 1 (by rw[hr.len];omega)];rfl,rfl⟩
 ·subst h;obtain⟨b,off,rfl,hb,hc⟩:=hr.cell (by omega);have h0:=hc 0 (by omega);rw[Nat.add_zero] at h0;have hl:=hr.nth_lt 0;clear hc;go_enter Tryz.func200,Tryz.ntmps200
  go_wp2;go_ret
  exact⟨by rw[q1i xs 1 (by rw[hr.len];omega)];first|rfl|(have e:=qaR (nth xs 0) 0 hl (by omega);simp at e;simp [e]),rfl⟩
 ·obtain⟨b,off,rfl,hb,hc⟩:=hr.cell (by omega);have h0:=hc 0 (by omega);have h1:=hc 1 (by omega);rw[Nat.add_zero] at h0;have hl:=hr.nth_lt 0;have a0:=hr.nth_lt 1;clear hc;go_enter Tryz.func200,Tryz.ntmps200
  go_wp2;go_ret
  exact⟨q0A (qaR _ _ hl a0),rfl⟩
theorem q1l(A B:Option Addr)(n m c d:Nat)(xs ys:List Nat)(w:World)(ha:Rd w A n c xs)(hb:Rd w B m d ys)(hx:xs=toL (val xs))(hy:ys=toL (val ys)):
  Calls Tryz.prog 245 #[.slice A n c,.slice B m d] w fun e w'=>e=.returned (.int .i64 (q1G (val xs) (val ys)))/\Below w.heap.size w w':=by
 have b3:=ha.sm;have a8:=hb.sm;have a5:words (val xs)=n:=by unfold words;rw[<- hx,ha.len]
 have a6:words (val ys)=m:=by unfold words;rw[<- hy,hb.len]
 have HX:=vv a5;have HY:=vv a6;clear a5 a6;clear hx hy;rcases Nat.lt_trichotomy n m with h|h|h
 ·have C:=vv (q2c (q3e (a:=val xs) (b:=val ys) (by rw[HX.o,HY.o];exact h)));go_enter Tryz.func245,Tryz.ntmps245
  go_wp2;go_ret
  exact⟨q0A C.o.symm,Below.refl _ _⟩
 ·subst h;go_enter Tryz.func245,Tryz.ntmps245
  go_wp2;go_loopw [5] (fun i wr=>∃(z:Int) (k:Nat),i=.int .i64 z/\z+1=k/\k<=n/\val (xs.drop k)=val (ys.drop k)/\Below w.heap.size w wr) (fun i _=>(intOf i+1).toNat)
  case atStart=>exact⟨_,n,rfl,by omega,lr,by rw[List.drop_of_length_le (by rw[ha.len];omega),List.drop_of_length_le (by rw[hb.len];omega)],Below.refl _ _⟩
  case round =>
   obtain⟨z,k,rfl,hz,hk,a3,a0⟩:=hrel;have HV:=vv a3;clear a3;rcases Nat.eq_zero_or_pos k with rfl|a9
   ·obtain rfl:z = -1:=by omega
    have C:=vv (q5b (a:=val xs) (b:=val ys) (by have:=HV.o;simpa using this));clear hz;go_wp2;go_ret
    exact⟨q0A C.o.symm,a0⟩
   ·obtain⟨j,rfl⟩:∃j,k=j+1:=⟨k-1,by omega⟩;obtain rfl:z=(j:Int):=by omega
    clear hz;obtain⟨b,off,rfl,b0,a2⟩:=ha.cell (by omega);have b4:wr.cell? ⟨b,off+j,none⟩=some (.int .u32 ((nth xs j:Nat):Int)):=(a0.cell (p:=⟨b,off+j,none⟩) b0).trans (a2 j (by omega));clear a2;obtain⟨b',off',rfl,a4,a1⟩:=hb.cell (by omega);have b5:wr.cell? ⟨b',off'+j,none⟩=some (.int .u32 ((nth ys j:Nat):Int)):=(a0.cell (p:=⟨b',off'+j,none⟩) a4).trans (a1 j (by omega));clear a1;have i1:(j:Int)<(n:Int):=by omega
    have i2:(0:Int)<=(j:Int):=by omega
    rcases Nat.lt_trichotomy (nth xs j) (nth ys j) with b1|a7|b2
    ·have C:=vv (q2c (q4t ha.lim (by rw[ha.len];omega) (by rw[hb.len];omega) HV.o b1));go_wp2_with fail
     go_quiet (fail)
     go_wp2;go_ret
     exact⟨q0A C.o.symm,q0N a0 _⟩
    ·have d1:decide (nth xs j<nth ys j)=false:=by simp;omega
     have d2:decide (nth ys j<nth xs j)=false:=by simp;omega
     have HQ:Hid (val (xs.drop j)=val (ys.drop j)):=vv (by rw[q0p xs,q0p ys,HV.o,a7]);clear a7;go_wp2_with fail
     go_quiet (fail)
     go_wp2_with fail
     go_quiet (fail)
     go_wp2;go_roundw
     case rel=>exact⟨_,j,rfl,by omega,by omega,HQ.o,q0N a0 _⟩
     case measure=>simp [intOf]
    ·have C:=vv (q48 (q4t hb.lim (by rw[hb.len];omega) (by rw[ha.len];omega) HV.o.symm b2));have d1:decide (nth xs j<nth ys j)=false:=by simp;omega
     go_wp2_with fail
     go_quiet (fail)
     go_wp2_with fail
     go_quiet (fail)
     go_wp2;go_ret
     exact⟨q0A C.o.symm,q0N (q0N a0 _) _⟩
 ·have C:=vv (q48 (q3e (a:=val ys) (b:=val xs) (by rw[HX.o,HY.o];exact h)));have hd:decide (n<m)=false:=by simp;omega
  go_enter Tryz.func245,Tryz.ntmps245
  go_wp2;go_ret
  exact⟨q0A C.o.symm,Below.refl _ _⟩
theorem q5f(A B:Option Addr)(n m c d:Nat)(xs ys:List Nat)(w:World)(ha:Rd w A n c xs)(hb:Rd w B m d ys)(hn:n<=17592186044416)(hm:m<=n):
  Calls Tryz.prog 194 #[.slice A n c,.slice B m d] w (q0e (val xs+val ys) w):=by
 have b1:=mk1 n (by omega);go_enter Tryz.func194,Tryz.ntmps194
 go_wp2;go_loopw [6,7] (fun q i wr=>∃(k y:Nat) (U:List Nat),i=.int .i64 k/\k<=n/\q=.int .u64 y/\y<=1/\U.length=n+1/\Own wr w.heap.size 34 U /\
   val (U.take k)+4294967296^k*y=val (xs.take k)+val (ys.take k)/\Below w.heap.size w wr) (fun _ i _=>n-(intOf i).toNat)
 case atStart=>exact⟨0,0,List.replicate (n+1) 0,rfl,Nat.zero_le _,rfl,by omega,by simp,Own.made _ _ _,by simp [val],(Below.refl _ _).alloc lr _⟩
 case round =>
  obtain⟨k,y,U,rfl,hk,rfl,hy,a7,a0,a4,a1⟩:=hrel;have HV:=vv a4;clear a4;have HL:=vv a7;have hg:=a0.lt;by_cases hkn:k<n
  ·obtain⟨b,off,rfl,a9,a3⟩:=ha.cell (by omega);have hx:wr.cell? ⟨b,off+k,none⟩=some (.int .u32 ((nth xs k:Nat):Int)):=(a1.cell (p:=⟨b,off+k,none⟩) a9).trans (a3 k hkn);clear a3;have b2:=ha.nth_lt k;have ho:=a0.cell (i:=k) (by omega);have hf:=a0.frozen k;clear a7;by_cases hkm:k<m
   ·obtain⟨b',off',rfl,a8,a2⟩:=hb.cell (by omega);have b3:wr.cell? ⟨b',off'+k,none⟩=some (.int .u32 ((nth ys k:Nat):Int)):=(a1.cell (p:=⟨b',off'+k,none⟩) a8).trans (a2 k hkm);clear a2;have b4:=hb.nth_lt k;go_wp2;go_roundw
    case rel=>exact⟨k+1,(nth xs k+y+nth ys k)/4294967296,U.set k ((nth xs k+y+nth ys k)%4294967296),by go_num,by omega,by go_num,by omega,by rw[List.length_set];exact HL.o,
     a0.set (by rw[HL.o];omega) (Nat.mod_lt _ (by omega)) (by omega),q2W (by rw[HL.o];omega) HV.o,a1.setCell lr _⟩
    case measure=>simp [intOf];omega
   ·have e0:nth ys k=0:=q1i ys k (by rw[hb.len];omega);have E0:=vv e0;clear e0;go_wp2;go_roundw
    case rel=>exact⟨k+1,(nth xs k+y+nth ys k)/4294967296,U.set k ((nth xs k+y+nth ys k)%4294967296),by go_num,by omega,by rw[E0.o];go_num,by rw[E0.o];omega,by rw[List.length_set];exact HL.o,
     a0.set (by rw[HL.o];omega) (Nat.mod_lt _ (by omega)) (by rw[E0.o];omega),q2W (by rw[HL.o];omega) HV.o,a1.setCell lr _⟩
    case measure=>simp [intOf];omega
  ·obtain rfl:k=n:=by omega
   have ho:=a0.cell (i:=k) (by omega);have hf:=a0.frozen k;clear a7;have a5:=a0.set (i:=k) (x:=y) (z:=(y:Int)) (by rw[HL.o];omega) (by omega) rfl;have hR:=vv (a5.rd (n:=k+1) (c:=k+1) (by rw[List.length_set,HL.o]) lr (by omega));have a6:=a1.setCell (p:=⟨w.heap.size,k,none⟩) lr (.int .u32 (y:Int));clear a5;go_wp2_with fail
   refine(q1T _ _ _ _ _ hR.o).mono ?_;rintro e w' ⟨m',rfl,rfl,b0⟩;go_wp2;go_ret
   refine⟨_,m',k+1,rfl,?_,Fr.at_ lr,a6⟩;have e:val (U.set k y)=val xs+val ys:=by
    have:=q0g U k y (by rw[HL.o];omega);have h2:=HV.o;rw[List.take_of_length_le (by rw[List.length_set,HL.o];omega)] at this;rw[List.take_of_length_le (l:=xs) (by rw[ha.len];omega),List.take_of_length_le (l:=ys) (by rw[hb.len];omega)] at h2;omega
   rw[<- e];exact b0
theorem q5e(A B:Option Addr)(n m c d:Nat)(xs ys:List Nat)(w:World)(ha:Rd w A n c xs)(hb:Rd w B m d ys)(hn:n<=17592186044416)(hm:m<n):
  Calls Tryz.prog 194 #[.slice B m d,.slice A n c] w (q0e (val xs+val ys) w):=by
 have b1:=mk1 n (by omega);go_enter Tryz.func194,Tryz.ntmps194
 go_wp2;go_loopw [6,7] (fun q i wr=>∃(k y:Nat) (U:List Nat),i=.int .i64 k/\k<=n/\q=.int .u64 y/\y<=1/\U.length=n+1/\Own wr w.heap.size 34 U /\
   val (U.take k)+4294967296^k*y=val (xs.take k)+val (ys.take k)/\Below w.heap.size w wr) (fun _ i _=>n-(intOf i).toNat)
 case atStart=>exact⟨0,0,List.replicate (n+1) 0,rfl,Nat.zero_le _,rfl,by omega,by simp,Own.made _ _ _,by simp [val],(Below.refl _ _).alloc lr _⟩
 case round =>
  obtain⟨k,y,U,rfl,hk,rfl,hy,a7,a0,a4,a1⟩:=hrel;have HV:=vv a4;clear a4;have HL:=vv a7;have hg:=a0.lt;by_cases hkn:k<n
  ·obtain⟨b,off,rfl,a9,a3⟩:=ha.cell (by omega);have hx:wr.cell? ⟨b,off+k,none⟩=some (.int .u32 ((nth xs k:Nat):Int)):=(a1.cell (p:=⟨b,off+k,none⟩) a9).trans (a3 k hkn);clear a3;have b2:=ha.nth_lt k;have ho:=a0.cell (i:=k) (by omega);have hf:=a0.frozen k;clear a7;by_cases hkm:k<m
   ·obtain⟨b',off',rfl,a8,a2⟩:=hb.cell (by omega);have b3:wr.cell? ⟨b',off'+k,none⟩=some (.int .u32 ((nth ys k:Nat):Int)):=(a1.cell (p:=⟨b',off'+k,none⟩) a8).trans (a2 k hkm);clear a2;have b4:=hb.nth_lt k;go_wp2;go_roundw
    case rel=>exact⟨k+1,(nth xs k+y+nth ys k)/4294967296,U.set k ((nth xs k+y+nth ys k)%4294967296),by go_num,by omega,by go_num,by omega,by rw[List.length_set];exact HL.o,
     a0.set (by rw[HL.o];omega) (Nat.mod_lt _ (by omega)) (by omega),q2W (by rw[HL.o];omega) HV.o,a1.setCell lr _⟩
    case measure=>simp [intOf];omega
   ·have e0:nth ys k=0:=q1i ys k (by rw[hb.len];omega);have E0:=vv e0;clear e0;go_wp2;go_roundw
    case rel=>exact⟨k+1,(nth xs k+y+nth ys k)/4294967296,U.set k ((nth xs k+y+nth ys k)%4294967296),by go_num,by omega,by rw[E0.o];go_num,by rw[E0.o];omega,by rw[List.length_set];exact HL.o,
     a0.set (by rw[HL.o];omega) (Nat.mod_lt _ (by omega)) (by rw[E0.o];omega),q2W (by rw[HL.o];omega) HV.o,a1.setCell lr _⟩
    case measure=>simp [intOf];omega
  ·obtain rfl:k=n:=by omega
   have ho:=a0.cell (i:=k) (by omega);have hf:=a0.frozen k;clear a7;have a5:=a0.set (i:=k) (x:=y) (z:=(y:Int)) (by rw[HL.o];omega) (by omega) rfl;have hR:=vv (a5.rd (n:=k+1) (c:=k+1) (by rw[List.length_set,HL.o]) lr (by omega));have a6:=a1.setCell (p:=⟨w.heap.size,k,none⟩) lr (.int .u32 (y:Int));clear a5;go_wp2_with fail
   refine(q1T _ _ _ _ _ hR.o).mono ?_;rintro e w' ⟨m',rfl,rfl,b0⟩;go_wp2;go_ret
   refine⟨_,m',k+1,rfl,?_,Fr.at_ lr,a6⟩;have e:val (U.set k y)=val xs+val ys:=by
    have:=q0g U k y (by rw[HL.o];omega);have h2:=HV.o;rw[List.take_of_length_le (by rw[List.length_set,HL.o];omega)] at this;rw[List.take_of_length_le (l:=xs) (by rw[ha.len];omega),List.take_of_length_le (l:=ys) (by rw[hb.len];omega)] at h2;omega
   rw[<- e];exact b0
theorem q1Y(A B:Option Addr)(n m c d:Nat)(xs ys:List Nat)(w:World)(ha:Rd w A n c xs)(hb:Rd w B m d ys)(hn:n<=17592186044416)(hm:m<=17592186044416):
  Calls Tryz.prog 194 #[.slice A n c,.slice B m d] w (q0e (val xs+val ys) w):=by
 rcases Nat.lt_or_ge n m with h|h
 ·rw[Nat.add_comm];exact q5e B A m n d c ys xs w hb ha hm h
 ·exact q5f A B n m c d xs ys w ha hb hn h
theorem q1U(A B:Option Addr)(n m c d:Nat)(xs ys:List Nat)(w:World)(ha:Rd w A n c xs)(hb:Rd w B m d ys)(hle:val ys<=val xs)(hm:m<=n):
  Calls Tryz.prog 195 #[.slice A n c,.slice B m d] w (q0e (val xs-val ys) w):=by
 have b1:=mk n ha.sm;have b2:=ha.sm;go_enter Tryz.func195,Tryz.ntmps195
 go_wp2;go_loopw [6,7] (fun q i wr=>∃(k y:Nat) (U:List Nat),i=.int .i64 k/\k<=n/\q=.int .u64 y/\y<=1/\U.length=n/\Own wr w.heap.size 34 U /\
   val (U.take k)+val (ys.take k)=val (xs.take k)+4294967296^k*y/\Below w.heap.size w wr) (fun _ i _=>n-(intOf i).toNat)
 case atStart=>exact⟨0,0,List.replicate n 0,rfl,Nat.zero_le _,rfl,by omega,by simp,Own.made _ _ _,by simp [val],(Below.refl _ _).alloc lr _⟩
 case round =>
  obtain⟨k,y,U,rfl,hk,rfl,hy,a5,a0,a4,a1⟩:=hrel;have HV:=vv a4;clear a4;have HL:=vv a5;have hg:=a0.lt;by_cases hkn:k<n
  ·obtain⟨b,off,rfl,a8,a3⟩:=ha.cell (by omega);have hx:wr.cell? ⟨b,off+k,none⟩=some (.int .u32 ((nth xs k:Nat):Int)):=(a1.cell (p:=⟨b,off+k,none⟩) a8).trans (a3 k hkn);clear a3;have a7:=ha.nth_lt k;have ho:=a0.cell (i:=k) (by omega);have hf:=a0.frozen k;clear a5;by_cases hkm:k<m
   ·obtain⟨b',off',rfl,a6,a2⟩:=hb.cell (by omega);have b3:wr.cell? ⟨b',off'+k,none⟩=some (.int .u32 ((nth ys k:Nat):Int)):=(a1.cell (p:=⟨b',off'+k,none⟩) a6).trans (a2 k hkm);clear a2;have a9:=hb.nth_lt k;by_cases h1:nth ys k+y<=nth xs k
    ·go_wp2;go_roundw
     case rel=>exact⟨k+1,0,U.set k (nth xs k-y-nth ys k),by go_num,by omega,by go_num,by omega,by rw[List.length_set];exact HL.o,
      a0.set (by rw[HL.o];omega) (by omega) (by omega),q2R (by rw[HL.o];omega) HV.o (by omega),a1.setCell lr _⟩
     case measure=>simp [intOf];omega
    ·have S:=vv (qbk (nth xs k) y (nth ys k) a7 hy a9 (nth xs k+4294967296-y-nth ys k) 1 (by omega) (by omega) (by omega));go_wp2;go_roundw
     case rel=>exact⟨k+1,1,U.set k (nth xs k+4294967296-y-nth ys k),by go_num,by omega,congrArg _ S.o.1,by omega,by rw[List.length_set];exact HL.o,
      a0.set (by rw[HL.o];omega) (by omega) S.o.2,q2R (by rw[HL.o];omega) HV.o (by omega),a1.setCell lr _⟩
     case measure=>simp [intOf];omega
   ·have E0:=vv (q1i ys k (by rw[hb.len];omega));by_cases h1:y<=nth xs k
    ·go_wp2;go_roundw
     case rel=>exact⟨k+1,0,U.set k (nth xs k-y),by go_num,by omega,by go_num,by omega,by rw[List.length_set];exact HL.o,
      a0.set (by rw[HL.o];omega) (by omega) (by omega),q2R (by rw[HL.o];omega) HV.o (by rw[E0.o];omega),a1.setCell lr _⟩
     case measure=>simp [intOf];omega
    ·have S:=vv (qaw (nth xs k) y a7 hy (nth xs k+4294967296-y) 1 (by omega) (by omega) (by omega));go_wp2;go_roundw
     case rel=>exact⟨k+1,1,U.set k (nth xs k+4294967296-y),by go_num,by omega,congrArg _ S.o.1,by omega,by rw[List.length_set];exact HL.o,
      a0.set (by rw[HL.o];omega) (by omega) S.o.2,q2R (by rw[HL.o];omega) HV.o (by rw[E0.o];omega),a1.setCell lr _⟩
     case measure=>simp [intOf];omega
  ·obtain rfl:k=n:=by omega
   clear a5;have hR:=vv (a0.rd (n:=k) (c:=k) HL.o.symm lr (by omega));go_wp2_with fail
   refine(q1T _ _ _ _ _ hR.o).mono ?_;rintro e w' ⟨m',rfl,rfl,b0⟩;go_wp2;go_ret
   refine⟨_,m',k,rfl,?_,Fr.at_ lr,a1⟩;rw[<- q7W HL.o (by rw[ha.len];omega) (by rw[hb.len];omega) a0.2 hle HV.o];exact b0
theorem qaH(A B:Option Addr)(n m c d:Nat)(xs ys:List Nat)(w:World)(ha:Rd w A n c xs)(hb:Rd w B m d ys)(hs:n+m<=35184372088832):
  Calls Tryz.prog 192 #[.slice A n c,.slice B m d] w (q0e (val xs*val ys) w):=by
 have b5:=mk (n+m) hs;have ec:((n+m:Nat):Int)=(n:Int)+(m:Int):=by omega
 rw[ec] at b5;clear ec;go_enter Tryz.func192,Tryz.ntmps192
 go_wp2;go_loopw [6] (fun i wr=>∃(k:Nat) (U:List Nat),i=.int .i64 k/\k<=n/\U.length=n+m/\Own wr w.heap.size 34 U /\
   val (U.take (k+m))=val (xs.take k)*val ys/\Below w.heap.size w wr) (fun i _=>n-(intOf i).toNat)
 case atStart=>exact⟨0,List.replicate (n+m) 0,rfl,Nat.zero_le _,by simp,Own.made _ _ _,by simp [val,List.take_replicate,q0h],(Below.refl _ _).alloc lr _⟩
 case round =>
  obtain⟨k,U,rfl,hk,b0,a8,a1,a7⟩:=hrel;have HV:=vv a1;have HL:=vv b0;clear a1 b0;obtain⟨wo,rfl⟩:∃wo:World,wo=wr:=⟨_,rfl⟩;by_cases hkn:k<n
  ·obtain⟨b,off,rfl,b6,a4⟩:=ha.cell (by omega);have hx:wo.cell? ⟨b,off+k,none⟩=some (.int .u32 ((nth xs k:Nat):Int)):=(a7.cell (p:=⟨b,off+k,none⟩) b6).trans (a4 k hkn);clear a4;have b1:=ha.nth_lt k;go_wp2;go_loopw [7,9] (fun q i wr=>∃(j y:Nat) (V:List Nat),i=.int .i64 j/\j<=m/\q=.int .u64 y/\y<4294967296/\V.length=n+m/\Own wr w.heap.size 34 V /\
    (∀p,k+j<=p->nth V p=nth U p)/\val (V.take (k+j))+4294967296^(k+j)*y=val (U.take (k+j))+4294967296^k*(nth xs k*val (ys.take j))/\Below w.heap.size w wr) (fun _ i _=>m-(intOf i).toNat)
   case atStart=>exact⟨0,0,U,rfl,Nat.zero_le _,rfl,by omega,HL.o,a8,fun _ _=>rfl,by simp [val],a7⟩
   case round =>
    clear hx;obtain⟨j,y,V,rfl,hj,rfl,hy,b2,a0,a5,a1,a2⟩:=hrel;have b3:=vv a1;have a6:=vv b2;have HS:=vv a5;clear a1 b2 a5;have hg:=a0.lt;by_cases hjm:j<m
    ·obtain⟨b',off',rfl,a9,a3⟩:=hb.cell (by omega);have b9:wr.cell? ⟨b',off'+j,none⟩=some (.int .u32 ((nth ys j:Nat):Int)):=(a2.cell (p:=⟨b',off'+j,none⟩) a9).trans (a3 j hjm);clear a3;have b4:=hb.nth_lt j;have ho:=a0.cell (i:=k+j) (by rw[a6.o];omega);have hf:=a0.frozen (k+j);have c0:=a0.nth_lt (k+j);have c1:((nth xs k:Nat):Int)*((nth ys j:Nat):Int)<=18446744065119617025:=by
      have:=q1L b1 b4;omega
     have b7:(0:Int)<=((nth xs k:Nat):Int)*((nth ys j:Nat):Int):=Int.mul_nonneg (Int.natCast_nonneg _) (Int.natCast_nonneg _);have i1:(j:Int)<(m:Int):=by omega
     have i2:(0:Int)<=(j:Int):=by omega
     have i3:(k:Int)+(j:Int)<(n:Int)+(m:Int):=by omega
     have i4:(0:Int)<=(k:Int)+(j:Int):=by omega
     go_wp2_with fail
     go_quiet (fail)
     have HB:=vv (q1L b1 b4);have HO:=vv a0;clear a0;go_wp2;go_roundw
     case rel =>
      have hd:(nth xs k*nth ys j+nth V (k+j)+y)/4294967296<4294967296:=by have:=HB.o;omega
      refine⟨j+1,(nth xs k*nth ys j+nth V (k+j)+y)/4294967296,V.set (k+j) ((nth xs k*nth ys j+nth V (k+j)+y)%4294967296),by go_num,by omega,congrArg _ (by omega),hd,by rw[List.length_set];exact a6.o,
       (HO.o.drewN _).set (by rw[a6.o];omega) (Nat.mod_lt _ (by omega)) (by omega),fun p hp=>?_,q8d (by rw[a6.o];omega) (HS.o _ lr) b3.o,(q0N a2 _).setCell lr _⟩
      rw[q0q _ _ (by omega)];exact HS.o p (by omega)
     case measure=>simp [intOf];omega
    ·obtain rfl:j=m:=by omega
     have ho:=a0.cell (i:=k+j) (by rw[a6.o];omega);have hf:=a0.frozen (k+j);have HO:=vv a0;clear a0;go_wp2;go_roundw
     case rel =>
      exact⟨k+1,V.set (k+j) y,by go_num,by omega,by rw[List.length_set];exact a6.o,HO.o.set (by rw[a6.o];omega) hy rfl,q9J hb.len (by rw[a6.o];omega) HV.o b3.o,a2.setCell lr _⟩
     case measure=>simp [intOf];omega
  ·obtain rfl:k=n:=by omega
   have hR:=vv (a8.rd (n:=k+m) (c:=k+m) HL.o.symm lr (by omega));go_wp2_with fail
   refine(q1T _ _ _ _ _ hR.o).mono ?_;rintro e w' ⟨m',rfl,rfl,b8⟩;go_wp2;go_ret
   refine⟨_,m',k+m,rfl,?_,Fr.at_ lr,a7⟩;have e:=HV.o;rw[q0l (xs:=U) (by rw[HL.o];omega),q0l (xs:=xs) (by rw[ha.len];omega)] at e;rw[<- e];exact b8
theorem q4H(g n c':Nat)(U:List Nat)(B:Option Addr)(m d at_ N:Nat)(z:Int)(hz:z=(at_:Int))(w:World)(ho:Own w g 34 U)(hn:U.length=n)(hs:n<=35184372088832)(hb:Rd w B m d (toL N))(hne:∀a,B=some a->a.block≠g)
  (hat:at_<=n) (hfit:val U+4294967296^at_*N<4294967296^n) :
  Calls Tryz.prog 193 #[.slice (some ⟨g,0,none⟩) n c',.slice B m d,.int .i64 z] w fun e w'=>e=.returned (.tuple #[]) /\
   (∃V:List Nat,Own w' g 34 V/\V.length=n/\val V=val U+4294967296^at_*N)/\w.grownBy w' (some g):=by
 subst hz;have HF:=vv hfit;have HN:=vv hn;clear hfit hn;have b2:=hb.sm;go_enter Tryz.func193,Tryz.ntmps193
 go_wp2;go_loopw [6,7] (fun q i wr=>∃(k y:Nat) (V:List Nat),i=.int .i64 k/\q=.int .u64 y/\y<=1/\k<=n/\V.length=n/\Own wr g 34 V /\
   (∀p,at_+k<=p->nth V p=nth U p)/\val (V.take (at_+k))+4294967296^(at_+k)*y=val (U.take (at_+k))+4294967296^at_*val ((toL N).take k)/\w.grownBy wr (some g)) (fun _ i _=>n-(intOf i).toNat)
 case atStart=>exact⟨0,0,U,rfl,rfl,by omega,Nat.zero_le _,HN.o,ho,fun _ _=>rfl,by simp [val],World.grownBy.refl _ _⟩
 case round =>
  obtain⟨k,y,V,rfl,rfl,hy,hk,a7,a0,a2,a4,a1⟩:=hrel;have HV:=vv a4;have HL:=vv a7;have HS:=vv a2;have HO:=vv a0;have a8:=vv hb.len;have HR:=vv (fun hc=>q6g HF.o a4 (k:=k) (y:=y) hc);clear a4 a7 a2;by_cases hkm:k<m
  ·have a5:at_+k<n:=HR.o (.inl (by rw[a8.o];exact hkm));obtain⟨b,off,rfl,a9,a3⟩:=hb.cell (by omega);have b0:b≠g:=hne _ rfl;have b3:wr.cell? ⟨b,off+k,none⟩=some (.int .u32 ((nth (toL N) k:Nat):Int)):=(q0y a1 (p:=⟨b,off+k,none⟩) a9 b0).trans (a3 k hkm);clear a3;have b4:=hb.nth_lt k;have hx:=a0.cell (i:=at_+k) (by rw[HL.o];omega);have hf:=a0.frozen (at_+k);have b1:=a0.nth_lt (at_+k);clear a0;go_wp2;go_roundw
   case rel =>
    refine⟨k+1,(nth V (at_+k)+y+nth (toL N) k)/4294967296,V.set (at_+k) ((nth V (at_+k)+y+nth (toL N) k)%4294967296),by go_num,congrArg _ (by omega),by omega,by omega,by rw[List.length_set];exact HL.o,
     HO.o.set (by rw[HL.o];omega) (Nat.mod_lt _ (by omega)) (by omega),fun p hp=>?_,q3Q (by rw[HL.o];omega) (HS.o _ lr) HV.o (by omega),q07 a1 (.inl rfl) _⟩
    rw[q0q _ _ (by omega)];exact HS.o p (by omega)
   case measure=>simp [intOf];omega
  ·have E0:=vv (q1i (toL N) k (by rw[hb.len];omega));rcases Nat.eq_zero_or_pos y with rfl|a6
   ·go_wp2;go_end0
    exact⟨rfl,⟨V,HO.o,HL.o,q6h (by rw[HL.o,HN.o]) HS.o (by rw[a8.o];omega) HV.o⟩,a1⟩
   ·have a5:at_+k<n:=HR.o (.inr a6);have hx:=a0.cell (i:=at_+k) (by rw[HL.o];omega);have hf:=a0.frozen (at_+k);have b1:=a0.nth_lt (at_+k);clear a0;go_wp2;go_roundw
    case rel =>
     refine⟨k+1,(nth V (at_+k)+y)/4294967296,V.set (at_+k) ((nth V (at_+k)+y)%4294967296),by go_num,congrArg _ (by omega),by omega,by omega,by rw[List.length_set];exact HL.o,
      HO.o.set (by rw[HL.o];omega) (Nat.mod_lt _ (by omega)) (by omega),fun p hp=>?_,q3Q (by rw[HL.o];omega) (HS.o _ lr) HV.o (by rw[E0.o];omega),q07 a1 (.inl rfl) _⟩
     rw[q0q _ _ (by omega)];exact HS.o p (by omega)
    case measure=>simp [intOf];omega
end Go.Proofs.YtcdimmblnbkjjaaGreatDoor.A
