/- Lemmas. -/
import Derived.Test.YtppgcnhlpnmieaaGreatDoorPartBN
import Derived.Test.YtppgcnhlpnmieaaGreatDoorPartBQ
import Derived.Test.YtppgcnhlpnmieaaGreatDoorPartBR
set_option linter.all false
namespace Go.Proofs.YtppgcnhlpnmieaaGreatDoor.Hx
open Go Go.RowKit R5 Scn Fms Exa
theorem LdE.uniq{E F:Nat}{s:ByteArray}{d:Nat}{e e':Ending}(h:LdE E F s d e)(k:LdE E F s d e'):e=e':=by
 rcases h with ⟨i,hi,ha,hn,rfl⟩|⟨ha,h⟩
 ·rcases k with ⟨j,hj,hb,hm,rfl⟩|⟨hb,-⟩
  ·have:i=j:=by
    rcases Nat.lt_trichotomy i j with h|h|h
    ·have:=hb i h;omega
    ·exact h
    ·have:=ha j h;omega
   rw[this]
  ·have:=hb i hi;omega
 ·rcases k with ⟨j,hj,hb,hm,rfl⟩|⟨hb,k⟩
  ·have:=ha j hj;omega
  ·rcases h with ⟨h1,rfl⟩|⟨h1,h2,rfl⟩|⟨h1,h2,rfl⟩<;>rcases k with ⟨k1,rfl⟩|⟨k1,k2,rfl⟩|⟨k1,k2,rfl⟩<;>first|rfl|omega
abbrev awP:ByteArray:=⟨#[48,120,49,46,56,112,45,50,51]⟩
abbrev awQ:ByteArray:=⟨#[48,120,49,112,49]⟩
abbrev awR:ByteArray:=⟨#[48,120,49,112,45,50,53]⟩
abbrev awD:ByteArray:=⟨#[48,120,55,101,48,49]⟩
abbrev awL:ByteArray:=⟨#[48,120,55,103,48,49]⟩
theorem qab(w:World)(hb:Bg w)(ht:Ten w):
  Calls Tryz.prog 18 #[fm 5 10,.int .u64 3] w fun e w'=>e=.returned (.tuple #[.string awP,.int .i64 0])/\Below w.heap.size w w':=by
 have h:=qaI 5 10 3 3 false false (-24) w (by decide) ht (by decide) (by decide) (by decide) (by decide) (fun w' h=>by
  have k:=q46 5 10 3 w' (by decide) (by decide) (by decide) (by decide) (by decide) (by decide) (hb.below h).std 3 (-24) false (by decide +kernel) (by decide +kernel) (by decide +kernel)
  rwa [show q0L 5 10 3=false by decide +kernel] at k)
 rw[show(⟨(q2j false 3 (-24)).toArray⟩:ByteArray)=awP by decide +kernel] at h;exact h
theorem q96(w:World)(hb:Bg w)(ht:Ten w):
  Calls Tryz.prog 20 #[fm 11 52,.int .u64 4611404543450677248,.int .i64 0,.int .u8 0] w fun e w'=>e=.returned (.tuple #[.string awQ,.int .i64 0])/\Below w.heap.size w w':=by
 have h:=q9b 11 52 4611404543450677248 31 false false (-4) 0 0 w (by decide) ht hb.std (by decide) (by decide) (by decide) (by decide) (by decide) (by decide) (by decide +kernel) (fun w' h=>by
  have k:=q46 11 52 4611404543450677248 w' (by decide) (by decide) (by decide) (by decide) (by decide) (by decide +kernel) (hb.below h).std 31 (-4) false (by decide +kernel) (by decide +kernel) (by decide +kernel)
  rwa [show q0L 11 52 4611404543450677248=false by decide +kernel] at k)
 rw[show(⟨(q7L false false 31 (-4) 0 0).toArray⟩:ByteArray)=awQ by decide +kernel] at h;exact h
theorem qbC(w:World)(hb:Bg w):
  Calls Tryz.prog 22 #[fm 5 10,.int .u64 32257] w fun e w'=>e=.returned (.tuple #[.string awD,.int .i64 0])/\Below w.heap.size w w':=by
 have h:=Dump 5 10 32257 w (by decide) (by decide) (by decide) (by decide) (by decide);rw[show(⟨(q8S 5 10 32257).toArray⟩:ByteArray)=awD by decide +kernel] at h;exact h
theorem qbB(w:World):
  Calls Tryz.prog 52 #[fm 5 10,.string awL] w fun e w'=>e=ldV 0 3 12/\Below w.heap.size w w':=by
 have h:=qe7 5 10 awL w (by decide) (by decide) (by decide) (by decide) (by decide);refine h.mono fun e w' h=>⟨h.1.uniq (Or.inl ⟨3,by decide,?_,by decide +kernel,rfl⟩),h.2⟩
 intro j hj;rcases(by omega:j=0\/j=1\/j=2) with rfl|rfl|rfl<;>decide +kernel
theorem qbA(w:World)(hb:Bg w):
  Calls Tryz.prog 51 #[fm 5 10,.string awR,.int .u8 3] w (RdP 1 5 w):=by
 have hr:q6H awR=(⟨2,false,false,[],0,false,1,-25,0⟩,0,0):=by
  have h:=q8b false 1 0 (-25) (by decide) (by decide) (by decide) (by decide);rw[show bo (txtL false (hexL 1 (0+1)) (-25))=awR by decide +kernel] at h;rw[h];unfold q5I;rw[if_neg (by decide)];have e1:1/2^tz 1=1:=by decide +kernel
  have e2:q7F (-25-4*(0:Nat)+(tz 1:Int)) = -25:=by decide +kernel
  rw[e1];congr 2
 have h:=qbN 4 10 awR 3 ⟨2,false,false,[],0,false,1,-25,0⟩ w (by decide) (by decide) (by decide) (by decide) (by decide) hb hr rfl (by decide +kernel) (by decide +kernel);rw[show q0V (4+1) 10 false false 3 (1*p2 (-25)) (p2 (-(-25)))=(1,5) by decide +kernel] at h;exact h
theorem q1V(w:World):Calls Tryz.prog 50 #[] w fun e w'=>e=.returned (fm 5 10)/\Below w.heap.size w w':=by
 have hb:Below w.heap.size w (w.alloc (.cells #[.int .i64 5,.int .i64 10] 23)):=(Below.refl _ _).alloc lr _;have HB:=vv hb;clear hb;go_enter Tryz.func50,Tryz.ntmps50
 go_wp2;exact bodyPost_ret (v:=fm 5 10) (by simp [results,Tryz.results50,go_sem]) rfl ⟨rfl,HB.o⟩
end Go.Proofs.YtppgcnhlpnmieaaGreatDoor.Hx
