/- Lemmas. -/
import Derived.Test.YtabcgemembkkcaaGreatDoorDigsAJ
import Derived.Test.YtabcgemembkkcaaGreatDoorDigsAT
set_option linter.all false
set_option maxHeartbeats 1000000
open Go.Proofs.Tryz
open Decidable renaming decide->qa
open Go.Proofs.Tryz renaming prog->qb
namespace Go.Proofs.YtabcgemembkkcaaGreatDoor
variable{fq:FuncId}
namespace AB
open Go Go.RowKit
theorem set_(g o:Nat)(v u:Int)(b:Bool)(A:Option Addr)(n c:Nat)(xs:List Nat)(w:World)(h:IntAt w g o v)(hr:Rd w A n c xs)(hz:∀a,A=some a->a.off=0)
  (hu:u.natAbs=val xs) (hb:qa (u<0)=(b && qa (0<val xs))) (hq:fq=181\/fq=99:=by decide) :
  Calls qb fq #[.pointer (some ⟨g,o,none⟩),.bool b,.slice A n c] w (q0B g o u w):=by
 have r:=hr.sm;have j:=vv fun fq hq=>trim (fq:=fq) (hq:=hq) A n c xs w hr
 have k:=vv h;have x:=h.lt;have y:=h.fz o;have z:=h.fz (o+1);obtain⟨D,E,F,G,H,s,t⟩:=h.ex;have l:=vv hu;have p:=vv hb;clear h hr s t hu hb;rcases hq with rfl|rfl;go_enter func181,ntmps181;rotate_left;go_enter func99,ntmps99;rotate_left;all_goals
  go_wp2_with fail;refine(j.o _ (by decide)).mono ?_;rintro e I ⟨m,rfl,rfl,d⟩;have C:=d.sm;have i:m=0↔val xs=0:=by rw[<- d.words];exact q06
  have q:=vv d;clear d j r;cases b
  ·have f:Hid (qa (u<0)=false):=vv (by rw[p.o];rfl);clear i;go_wp2;go_ret;exact⟨rfl,k.o.put f.o.symm (by rw[l.o];exact q.o) hz,q7G _ _ _ _ _⟩
  ·have f:Hid (qa (u<0)=qa (0<m)):=vv (by rw[p.o,k37];by_cases h:m=0<;>simp<;>omega);clear i;go_wp2;go_ret;exact⟨rfl,k.o.put f.o.symm (by rw[l.o];exact q.o) hz,q7G _ _ _ _ _⟩
theorem set_of(g o:Nat)(v u:Int)(b:Bool)(A:Option Addr)(n c N:Nat)(w:World)(h:IntAt w g o v)(hr:Rd w A n c (toL N))(hf:∀a,A=some a->a.off=0)
  (hu:u.natAbs=N) (hb:qa (u<0)=(b && qa (0<N))) (hq:fq=181\/fq=99:=by decide) :
  Calls qb fq #[.pointer (some ⟨g,o,none⟩),.bool b,.slice A n c] w (q0B g o u w):=
 set_ (hq:=hq) g o v u b A n c (toL N) w h hr hf (by rw[q04];exact hu) (by rw[q04];exact hb)
theorem Set(g o gx ox:Nat)(v u:Int)(w:World)(h:IntAt w g o v)(hx:IntAt w gx ox u)(hq:fq=176\/fq=105:=by decide):Calls qb fq #[.pointer (some ⟨g,o,none⟩),.pointer (some ⟨gx,ox,none⟩)] w (q0B g o u w):=by
 have f:=vv h;have j:=hx.lt;obtain⟨A,n,c,l,y,i,m⟩:=hx.ex;have b:=vv i.drew;clear i m h hx;rcases hq with rfl|rfl;go_enter func176,ntmps176;rotate_left;go_enter func105,ntmps105;rotate_left;all_goals
  go_wp2_with fail;go_region_with (first
   | ((first|go_at_call 179|go_at_call 100);(with_reducible refine(copied _ _ _ _ _ b.o).mono ?_);rintro e q ⟨rfl,r,d⟩;have k:Hid (Rd q (some ⟨w.heap.size,0,none⟩) n n (toL u.natAbs)):=vv (r.rd b.o.len.symm lr b.o.sm);have x:=(d.cell (p:=⟨gx,ox,none⟩) j).trans l)
   | ((first|go_at_call 181|go_at_call 99);(with_reducible refine(set_of g o v u _ _ n n u.natAbs _ (f.o.drew.below d) k.o (fun a e=>by cases e;rfl) rfl (qaD u)).mono ?_);rintro e z ⟨rfl,s,t⟩))
  all_goals
   go_wp2;go_ret;exact⟨rfl,s,((Fm.of_below d f.o.lt).trans t).undrew⟩
theorem Abs(g o gx ox:Nat)(v u:Int)(w:World)(h:IntAt w g o v)(hx:IntAt w gx ox u)(hq:fq=175\/fq=256:=by decide):Calls qb fq #[.pointer (some ⟨g,o,none⟩),.pointer (some ⟨gx,ox,none⟩)] w (q0B g o (u.natAbs:Int) w):=by
 have d:=vv h;have q:=hx.lt;obtain⟨A,n,c,r,s,f,k⟩:=hx.ex;have b:=vv f;clear f k h hx;rcases hq with rfl|rfl;go_enter func175,ntmps175;rotate_left;go_enter func256,ntmps256;rotate_left;all_goals
  go_wp2_with fail;refine(copied _ _ _ _ _ b.o).mono ?_;rintro e t ⟨rfl,i,j⟩;have l:=vv i;clear i;go_wp2_with fail;refine(set_of g o v (u.natAbs:Int) _ _ n n u.natAbs _ (d.o.below j) (l.o.rd b.o.len.symm lr b.o.sm) (fun a e=>by cases e;rfl) rfl (q2U (by omega))).mono ?_;rintro e x ⟨rfl,m,p⟩;go_wp2;go_ret;exact⟨rfl,m,(Fm.of_below j d.o.lt).trans p⟩
theorem Neg(g o gx ox:Nat)(v u:Int)(w:World)(h:IntAt w g o v)(hx:IntAt w gx ox u)(hq:fq=120\/fq=39:=by decide):Calls qb fq #[.pointer (some ⟨g,o,none⟩),.pointer (some ⟨gx,ox,none⟩)] w (q0B g o (-u) w):=by
 have f:=vv h;have j:=hx.lt;obtain⟨A,n,c,l,y,i,m⟩:=hx.ex;have b:=vv i.drew;clear i m h hx;rcases hq with rfl|rfl;go_enter func120,ntmps120;rotate_left;go_enter func39,ntmps39;rotate_left;all_goals
  go_wp2_with fail;go_region_with (first
   | ((first|go_at_call 179|go_at_call 100);(with_reducible refine(copied _ _ _ _ _ b.o).mono ?_);rintro e q ⟨rfl,r,d⟩;have k:Hid (Rd q (some ⟨w.heap.size,0,none⟩) n n (toL u.natAbs)):=vv (r.rd b.o.len.symm lr b.o.sm);have x:=(d.cell (p:=⟨gx,ox,none⟩) j).trans l)
   | ((first|go_at_call 181|go_at_call 99);(with_reducible refine(set_of g o v (-u) _ _ n n u.natAbs _ (f.o.drew.below d) k.o (fun a e=>by cases e;rfl) (Int.natAbs_neg u) (q5Y u)).mono ?_);rintro e z ⟨rfl,s,t⟩))
  all_goals
   go_wp2;go_ret;exact⟨rfl,s,((Fm.of_below d f.o.lt).trans t).undrew⟩
theorem SetWords(g o:Nat)(v:Int)(A:Option Addr)(n c:Nat)(xs:List Nat)(w:World)(h:IntAt w g o v)(hr:Rd w A n c xs)(hq:fq=286\/fq=154:=by decide):Calls qb fq #[.pointer (some ⟨g,o,none⟩),.slice A n c] w (q0B g o (val xs:Int) w):=by
 have d:=vv h;have b:=vv hr;clear hr h;rcases hq with rfl|rfl;go_enter func286,ntmps286;rotate_left;go_enter func154,ntmps154;rotate_left;all_goals
  go_wp2_with fail;refine(copied _ _ _ _ _ b.o).mono ?_;rintro e m ⟨rfl,f,i⟩;have j:=vv f;clear f;go_wp2_with fail;refine(set_ g o v (val xs:Int) _ _ n n xs _ (d.o.below i) (j.o.rd b.o.len.symm lr b.o.sm) (fun a e=>by cases e;rfl) rfl (q2U (by omega))).mono ?_;rintro e p ⟨rfl,k,l⟩;go_wp2;go_ret;exact⟨rfl,k,(Fm.of_below i d.o.lt).trans l⟩
theorem SetInt64(g o:Nat)(v x:Int)(w:World)(h:IntAt w g o v)(h1:-9223372036854775808<=x)(h2:x<=9223372036854775807)(hq:fq=180\/fq=207:=by decide):Calls qb fq #[.pointer (some ⟨g,o,none⟩),.int .i64 x] w (q0B g o x w):=by
 have f:=vv h;clear h;rcases k23 x 0 with hx|hx
 ·obtain⟨k,r⟩:∃k:Nat,k=x.natAbs:=⟨_,rfl⟩;have q:k<18446744073709551616:=by omega
  have y:IntKind.u64.wrap (-IntKind.u64.wrap x)=(k:Int):=by rw[IntKind.wrap_u64,IntKind.wrap_u64];omega
  have z:IntKind.u64.wrap (-(x%18446744073709551616))=(k:Int):=by rw[IntKind.wrap_u64];omega
  have j:=vv fun fq hq=>fromUint (fq:=fq) (hq:=hq) k w q
  have s:=vv r;clear r q;rcases hq with rfl|rfl;go_enter func180,ntmps180;rotate_left;go_enter func207,ntmps207;rotate_left;all_goals
   go_wp2_with fail;refine(j.o _ (by decide)).mono ?_;rintro e t ⟨A,m,c,rfl,b,i,d⟩;have l:=vv b;clear b;go_wp2_with fail;refine(set_of g o v x _ A m c k _ (f.o.below d) l.o (fun a e=>(i a e).2) s.o.symm (by have:=s.o;simp;omega)).mono ?_;rintro e u ⟨rfl,n,p⟩;go_wp2;go_ret;exact⟨rfl,n,(Fm.of_below d f.o.lt).trans p⟩
 ·obtain⟨k,rfl⟩:∃k:Nat,x=k:=⟨x.toNat,by omega⟩;have j:=vv fun fq hq=>fromUint (fq:=fq) (hq:=hq) k w (by omega)
  rcases hq with rfl|rfl;go_enter func180,ntmps180;rotate_left;go_enter func207,ntmps207;rotate_left;all_goals
   go_wp2_with fail;refine(j.o _ (by decide)).mono ?_;rintro e t ⟨A,m,c,rfl,b,i,d⟩;have l:=vv b;clear b;go_wp2_with fail;refine(set_of g o v k _ A m c k _ (f.o.below d) l.o (fun a e=>(i a e).2) rfl (q2U (by omega))).mono ?_;rintro e u ⟨rfl,n,p⟩;go_wp2;go_ret;exact⟨rfl,n,(Fm.of_below d f.o.lt).trans p⟩
theorem Sign(g o:Nat)(u:Int)(w:World)(h:IntAt w g o u)(hq:fq=177\/fq=112:=by decide):Calls qb fq #[.pointer (some ⟨g,o,none⟩)] w fun e w'=>e=.returned (.int .i64 u.sign)/\w=w':=by
 have m:=h.lt;obtain⟨A,n,c,j,q,f,k⟩:=h.ex;have d:n=0↔u=0:=by rw[<- f.words,q06];omega
 have p:=f.sm;clear f k h;rcases k11 u 0 with a|a|a
 ·have b:qa (u<0)=true:=k04 a;have l:((n:Int)==0)=false:=by simp;omega
  have i:=vv (k1a a);rw[b] at j;clear d a b;rcases hq with rfl|rfl;go_enter func177,ntmps177;rotate_left;go_enter func112,ntmps112;rotate_left;all_goals
   go_wp2;go_ret;exact⟨q0X i.o.symm,rfl⟩
 ·obtain rfl:n=0:=d.2 a;subst a;clear d;rcases hq with rfl|rfl;go_enter func177,ntmps177;rotate_left;go_enter func112,ntmps112;rotate_left;all_goals
   go_wp2;go_ret;exact⟨rfl,rfl⟩
 ·have b:qa (u<0)=false:=k02 (by omega);have l:((n:Int)==0)=false:=by simp;omega
  have i:=vv (k0M a);rw[b] at j;clear d a b;rcases hq with rfl|rfl;go_enter func177,ntmps177;rotate_left;go_enter func112,ntmps112;rotate_left;all_goals
   go_wp2;go_ret;exact⟨q0X i.o.symm,rfl⟩
theorem BitLen(g o:Nat)(u:Int)(w:World)(h:IntAt w g o u)(hq:fq=91\/fq=190:=by decide):Calls qb fq #[.pointer (some ⟨g,o,none⟩)] w fun e w'=>e=.returned (.int .i64 ((bl u.natAbs:Nat):Int))/\w=w':=by
 have i:=h.lt;obtain⟨A,n,c,b,j,a,d⟩:=h.ex;have f:=vv fun fq hq=>bitLen (fq:=fq) (hq:=hq) _ _ _ _ _ a
 clear a d h b;rcases hq with rfl|rfl;go_enter func91,ntmps91;rotate_left;go_enter func190,ntmps190;rotate_left;all_goals
  go_wp2_with fail;refine(f.o _ (by decide)).mono ?_;rintro e w' ⟨rfl,rfl⟩;go_wp2;go_ret;exact⟨rfl,rfl⟩
end AB
namespace B
open AB
open Go Go.RowKit
def set_:=@AB.set_ 99
def set_of:=@AB.set_of 99
def Set:=@AB.Set 105
end B
namespace B
open AB
open Go Go.RowKit
def Abs:=@AB.Abs 256
def Neg:=@AB.Neg 39
def SetWords:=@AB.SetWords 154
def SetInt64:=@AB.SetInt64 207
def Sign:=@AB.Sign 112
def BitLen:=@AB.BitLen 190
end B
namespace A
open AB
open Go Go.RowKit
def set_:=@AB.set_ 181
def set_of:=@AB.set_of 181
def Set:=@AB.Set 176
end A
namespace A
open AB
open Go Go.RowKit
def Abs:=@AB.Abs 175
def Neg:=@AB.Neg 120
def SetWords:=@AB.SetWords 286
def SetInt64:=@AB.SetInt64 180
def Sign:=@AB.Sign 177
def BitLen:=@AB.BitLen 91
end A
end Go.Proofs.YtabcgemembkkcaaGreatDoor
