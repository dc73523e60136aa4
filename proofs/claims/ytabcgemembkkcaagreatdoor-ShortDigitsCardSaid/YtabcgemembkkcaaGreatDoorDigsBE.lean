/- Lemmas. -/
import Derived.Test.YtabcgemembkkcaaGreatDoorDigsAM
import Derived.Test.YtabcgemembkkcaaGreatDoorDigsBA
set_option linter.all false
open Go renaming World.frozen?_setCell->qa,World.cell?_of_block->qb,World->qc,heap_alloc_new->qd,Value->qe
namespace Go.Proofs.YtabcgemembkkcaaGreatDoor
variable{w w':qc}{base n b:Nat}{e:TypeId}{U:List Nat}{v:qe}{l:List qe}
section
open Go Go.RowKit
def u8s(U:List Nat):List qe:=U.map fun(x:Nat)=>Value.int .u8 (x:Int)
theorem q5e(U:List Nat){i:Nat}(h:i<U.length):(u8s U)[i]?=some (.int .u8 ((nth U i:Nat):Int)):=by unfold u8s nth;rw[k1S,k0b,k0n h];rfl
theorem q4a(U V:List Nat):u8s (U++V)=u8s U++u8s V:=by simp [u8s]
theorem q2w{g cap:Nat}(h:w.ownsRow base e 1 (.slice (some ⟨g,0,none⟩) n cap) n (u8s U)){i:Nat}(hi:i<n):w.cell? ⟨g,i,none⟩=some (.int .u8 ((nth U i:Nat):Int))/\w.frozen? ⟨g,i,none⟩=false/\base<=g/\g<w.heap.size:=by
 have j:U.length=n:=by have:=h.1;simpa [u8s] using this
 rcases h.2 with ⟨h,_⟩|⟨m,k,l,c,d,a,o,p,q,f⟩
 ·cases h
 ·cases c;refine⟨?_,by simp [World.frozen?,a],d,(k0P.1 a).1⟩;have b:=q5e U (i:=i) (by omega);rw[<- f,k0G,k1d,k0p hi] at b;simp only[World.cell?,a];rw[<- b];simp
theorem q96(h:w.ownsRow base e 1 v n (u8s U)):U.length=n:=by have:=h.1;simpa [u8s] using this
theorem q2K(h:w.ownsRow base e 1 v n (u8s U))(hn:0<n):∃g cap,v=.slice (some ⟨g,0,none⟩) n cap/\base<=g:=by
 rcases h.2 with ⟨_,d⟩|⟨g,cap,c,a,b,_⟩
 ·omega
 ·exact⟨g,cap,a,b⟩
theorem q4f(h:w.ownsRow base e 1 v n (u8s U)):∃A cap,v=.slice A n cap:=by
 rcases h.2 with ⟨a,rfl⟩|⟨g,cap,c,b,_⟩
 ·exact⟨none,0,a⟩
 ·exact⟨_,_,b⟩
theorem q4e(h:w.ownsRow base e 1 v n l)(hb:∀g,base<=g->g<w.heap.size->w'.heap[g]?=w.heap[g]?):w'.ownsRow base e 1 v n l:=by
 refine⟨h.1,?_⟩;rcases h.2 with d|⟨g,cap,c,f,a,b,i,j,k,m⟩
 ·exact .inl d
 ·exact .inr ⟨g,cap,c,f,a,(hb g a (k0P.1 b).1).trans b,i,j,k,m⟩
theorem q95(h:w.ownsRow base e 1 v n l)(hb:w.grownBy w' (some b))(hlt:b<base):w'.ownsRow base e 1 v n l:=q4e h fun g hg hs=>hb.block g hs (fun e=>by injection e with e;omega)
structure ScAt(w:qc)(b:Nat)(s:Scn.St):Prop where
 c0:w.cell? ⟨b,0,none⟩=some (.string s.rest)
 c1:w.cell? ⟨b,1,none⟩=some (.int .i64 (s.pos:Int))
 c2:w.cell? ⟨b,2,none⟩=some (.int .i64 (s.code:Int))
 fz:∀j,w.frozen? ⟨b,j,none⟩=false
 lt:b<w.heap.size
 sm:s.rest.size+s.pos<=65536
theorem ScAt.of{s:Scn.St}(h:ScAt w b s)(hb:w'.heap[b]?=w.heap[b]?)(hs:b<w'.heap.size):ScAt w' b s:=⟨(qb (a:=⟨b,0,none⟩) hb).trans h.c0,(qb (a:=⟨b,1,none⟩) hb).trans h.c1,(qb (a:=⟨b,2,none⟩) hb).trans h.c2,fun j=>(q0S (p:=⟨b,j,none⟩) hb).trans (h.fz j),hs,h.sm⟩
theorem ScAt.below{B:Nat}{s:Scn.St}(h:ScAt w b s)(hb:Below B w w')(hB:b<B):ScAt w' b s:=h.of (hb.block b hB) (k03 h.lt hb.size)
theorem ScAt.grown{s:Scn.St}(h:ScAt w b s){row:Option Nat}(hb:w.grownBy w' row)(hr:∀k,row=some k->k≠b):ScAt w' b s:=h.of (hb.block b h.lt (fun e=>hr b e.symm rfl)) (k03 h.lt hb.size)
theorem ScAt.put{s:Scn.St}(h:ScAt w b s)(c:Nat):ScAt (w.setCell ⟨b,2,none⟩ (.int .i64 (c:Int))) b (s.put c):=⟨(q0u (by simp)).trans h.c0,(q0u (by simp)).trans h.c1,q0v h.c2,fun j=>(qa _ _ _ _).trans (h.fz j),by simpa [World.setCell] using h.lt,h.sm⟩
theorem ScAt.drew{s:Scn.St}(h:ScAt w b s):ScAt w.drew b s:=⟨h.c0,h.c1,h.c2,h.fz,h.lt,h.sm⟩
theorem ScAt.made(w:qc)(r:ByteArray)(t:TypeId)(hr:r.size<=65536):ScAt (w.alloc (.cells #[.string r,.int .i64 0,.int .i64 0] t)) w.heap.size ⟨r,0,0⟩:=by
 refine⟨?_,?_,?_,fun j=>?_,by simp,hr⟩
 ·simp only[World.cell?,qd];rfl
 ·simp only[World.cell?,qd];rfl
 ·simp only[World.cell?,qd];rfl
 ·simp only[World.frozen?,qd];rw[Bool.and_eq_false_iff];right;simp
theorem ScAt.skip{s:Scn.St}(h:ScAt w b s)(hn:n<=s.rest.size):ScAt ((w.setCell ⟨b,0,none⟩ (.string (Scn.drop s.rest n))).setCell ⟨b,1,none⟩ (.int .i64 ((s.pos:Int)+(n:Int)))) b (s.skip n):=by refine⟨(q0u (by simp)).trans (q0v h.c0),q0v ((q0u (by simp)).trans h.c1),(q0u (by simp)).trans ((q0u (by simp)).trans h.c2),fun j=>(qa _ _ _ _).trans ((qa _ _ _ _).trans (h.fz j)),by simpa [World.setCell] using h.lt,?_⟩;have a:=h.sm;show(Scn.drop s.rest n).size+(s.pos+n)<=65536;rw[Scn.drop_size];omega
def ScP(b:Nat)(s:Scn.St)(v:qe)(w:qc)(e:Ending)(w':qc):Prop:=e=.returned v/\ScAt w' b s/\w.grownBy w' (some b)
theorem q8o{a:Addr}(h:w.cell? a=some v):a.block<w.heap.size:=by
 rcases k0A a.block w.heap.size with b|b
 ·exact b
 ·simp [World.cell?,k2X b] at h
end
namespace Scn
open Go Go.RowKit
def St.past(s:St)(p:ByteArray):St:=if s.has p.data.toList then s.skip p.size else s
def St.over(s:St)(p:ByteArray):St:=if s.fold p.data.toList then s.skip p.size else s
end Scn
end Go.Proofs.YtabcgemembkkcaaGreatDoor
