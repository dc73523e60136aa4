/- Lemmas. -/
import Derived.Test.YthopehoklmgphaaGreatDoorPartAQ
import Derived.Test.YthopehoklmgphaaGreatDoorPartBG
set_option linter.all false
open Go.Proofs.Tryz
open Go renaming World.cell?_of_block->qa,World.grownBy.refl->qb,World->qc,World.frozen?_setCell->qg,heap_alloc_new->qi,Value->qk,Calls->ql
open Option renaming none->qd,some->qh
open Bool renaming false->qe,true->qj
open Decidable renaming decide->qf
namespace Go.Proofs.YthopehoklmgphaaGreatDoor
variable{w w':qc}{base g n cap b B c:Nat}{e:TypeId}{U:List Nat}{v:qk}{l:List qk}
section
open Go Go.RowKit
def u8s(U:List Nat):List qk:=U.map fun(x:Nat)=>Value.int .u8 (x:Int)
theorem q8s(U:List Nat){i:Nat}(h:i<U.length):(u8s U)[i]?=qh (.int .u8 ((nth U i:Nat):Int)):=by unfold u8s nth;rw[List.getElem?_map,k08,k0n h];rfl
theorem q57(U V:List Nat):u8s (U++V)=u8s U++u8s V:=by simp [u8s]
theorem q56(U:List Nat):∀v∈u8s U,v.oneCell'=qj:=by intro v a;obtain⟨x,_,rfl⟩:=List.mem_map.1 a;rfl
theorem q71(h:w.ownsRow base e 1 (.slice (qh ⟨g,0,qd⟩) n cap) n (u8s U))(i x:Nat):(w.setCell ⟨g,i,qd⟩ (.int .u8 (x:Int))).ownsRow base e 1 (.slice (qh ⟨g,0,qd⟩) n cap) n (u8s (U.set i x)):=by
 obtain⟨b,c⟩:=h;rcases c with ⟨h,_⟩|⟨q,p,a,d,f,j,k,l,m,o⟩
 ·cases h
 ·cases d;refine⟨by simpa [u8s] using b,.inr ⟨g,cap,a.setIfInBounds i (.int .u8 (x:Int)),rfl,f,?_,k,l,by simpa using m,?_⟩⟩
  ·simp [World.setCell,k1S,j]
  ·have e:u8s (U.set i x)=(u8s U).set i (.int .u8 (x:Int)):=by unfold u8s;rw[List.map_set]
   rw[e,<- o];rw[Array.toList_setIfInBounds,List.take_set]
theorem q27(h:w.ownsRow base e 1 (.slice (qh ⟨g,0,qd⟩) n cap) n (u8s U)){i:Nat}(hi:i<n):w.cell? ⟨g,i,qd⟩=qh (.int .u8 ((nth U i:Nat):Int))/\w.frozen? ⟨g,i,qd⟩=qe/\base<=g/\g<w.heap.size:=by
 have j:U.length=n:=by have:=h.1;simpa [u8s] using this
 rcases h.2 with ⟨h,_⟩|⟨m,k,l,c,d,a,o,p,q,f⟩
 ·cases h
 ·cases c;refine⟨?_,by simp [World.frozen?,a],d,(k09.1 a).1⟩;have b:=q8s U (i:=i) (by omega);rw[<- f,k0H,k15,if_pos hi] at b;simp only[World.cell?,a];rw[<- b];simp
theorem qap(h:w.ownsRow base e 1 v n (u8s U)):U.length=n:=by have:=h.1;simpa [u8s] using this
theorem q26(h:w.ownsRow base e 1 v n (u8s U))(hn:0<n):∃g cap,v=.slice (qh ⟨g,0,qd⟩) n cap/\base<=g:=by
 rcases h.2 with ⟨_,d⟩|⟨g,cap,c,a,b,_⟩
 ·omega
 ·exact⟨g,cap,a,b⟩
theorem q0E(h:w.ownsRow base e 1 v n (u8s U)):∃A cap,v=.slice A n cap:=by
 rcases h.2 with ⟨a,rfl⟩|⟨g,cap,c,b,_⟩
 ·exact⟨qd,0,a⟩
 ·exact⟨_,_,b⟩
theorem q0A(h:w.ownsRow base e 1 v n l)(hb:∀g,base<=g->g<w.heap.size->w'.heap[g]?=w.heap[g]?):w'.ownsRow base e 1 v n l:=by
 refine⟨h.1,?_⟩;rcases h.2 with d|⟨g,cap,c,f,a,b,i,j,k,m⟩
 ·exact .inl d
 ·exact .inr ⟨g,cap,c,f,a,(hb g a (k09.1 b).1).trans b,i,j,k,m⟩
theorem q0s(h:w.ownsRow base e 1 v n l)(hb:w.grownBy w' (qh b))(hlt:b<base):w'.ownsRow base e 1 v n l:=q0A h fun g hg hs=>hb.block g hs (fun e=>by injection e with e;omega)
theorem q37(h:w.ownsRow base e 1 v n l)(hB:B<=base):w.ownsRow B e 1 v n l:=by
 refine⟨h.1,?_⟩;rcases h.2 with c|⟨g,cap,a,d,b,f,i,j,k,m⟩
 ·exact .inl c
 ·exact .inr ⟨g,cap,a,d,k06 hB b,f,i,j,k,m⟩
structure ScAt(w:qc)(b:Nat)(s:Scn.St):Prop where
 c0:w.cell? ⟨b,0,qd⟩=qh (.string s.rest)
 c1:w.cell? ⟨b,1,qd⟩=qh (.int .i64 (s.pos:Int))
 c2:w.cell? ⟨b,2,qd⟩=qh (.int .i64 (s.code:Int))
 fz:∀j,w.frozen? ⟨b,j,qd⟩=qe
 lt:b<w.heap.size
 sm:s.rest.size+s.pos<=65536
theorem ScAt.of{s:Scn.St}(h:ScAt w b s)(hb:w'.heap[b]?=w.heap[b]?)(hs:b<w'.heap.size):ScAt w' b s:=⟨(qa (a:=⟨b,0,qd⟩) hb).trans h.c0,(qa (a:=⟨b,1,qd⟩) hb).trans h.c1,(qa (a:=⟨b,2,qd⟩) hb).trans h.c2,fun j=>(q0Y (p:=⟨b,j,qd⟩) hb).trans (h.fz j),hs,h.sm⟩
theorem ScAt.below{s:Scn.St}(h:ScAt w b s)(hb:Below B w w')(hB:b<B):ScAt w' b s:=h.of (hb.block b hB) (k01 h.lt hb.size)
theorem ScAt.grown{s:Scn.St}(h:ScAt w b s){row:Option Nat}(hb:w.grownBy w' row)(hr:∀k,row=qh k->k≠b):ScAt w' b s:=h.of (hb.block b h.lt (fun e=>hr b e.symm rfl)) (k01 h.lt hb.size)
theorem ScAt.put{s:Scn.St}(h:ScAt w b s)(c:Nat):ScAt (w.setCell ⟨b,2,qd⟩ (.int .i64 (c:Int))) b (s.put c):=⟨(q0j (by simp)).trans h.c0,(q0j (by simp)).trans h.c1,q0t h.c2,fun j=>(qg _ _ _ _).trans (h.fz j),by simpa [World.setCell] using h.lt,h.sm⟩
theorem ScAt.drew{s:Scn.St}(h:ScAt w b s):ScAt w.drew b s:=⟨h.c0,h.c1,h.c2,h.fz,h.lt,h.sm⟩
theorem ScAt.made(w:qc)(r:ByteArray)(t:TypeId)(hr:r.size<=65536):ScAt (w.alloc (.cells #[.string r,.int .i64 0,.int .i64 0] t)) w.heap.size ⟨r,0,0⟩:=by
 refine⟨?_,?_,?_,fun j=>?_,by simp,hr⟩
 ·simp only[World.cell?,qi];rfl
 ·simp only[World.cell?,qi];rfl
 ·simp only[World.cell?,qi];rfl
 ·simp only[World.frozen?,qi];rw[k2e];right;simp
theorem ScAt.skip{s:Scn.St}(h:ScAt w b s)(hn:n<=s.rest.size):ScAt ((w.setCell ⟨b,0,qd⟩ (.string (Scn.drop s.rest n))).setCell ⟨b,1,qd⟩ (.int .i64 ((s.pos:Int)+(n:Int)))) b (s.skip n):=by refine⟨(q0j (by simp)).trans (q0t h.c0),q0t ((q0j (by simp)).trans h.c1),(q0j (by simp)).trans ((q0j (by simp)).trans h.c2),fun j=>(qg _ _ _ _).trans ((qg _ _ _ _).trans (h.fz j)),by simpa [World.setCell] using h.lt,?_⟩;have a:=h.sm;show(Scn.drop s.rest n).size+(s.pos+n)<=65536;rw[Scn.drop_size];omega
def ScP(b:Nat)(s:Scn.St)(v:qk)(w:qc)(e:Ending)(w':qc):Prop:=e=.returned v/\ScAt w' b s/\w.grownBy w' (qh b)
structure Bg(w:qc):Prop where
 std:Std w
 u8:Lib.Utf8Tabs 2 3 w
 es:∃te pe,w.cell? ⟨5,0,qd⟩=qh (.iface te pe)
 er:∃te pe,w.cell? ⟨6,0,qd⟩=qh (.iface te pe)
theorem qfG{a:Addr}(h:w.cell? a=qh v):a.block<w.heap.size:=by
 rcases k0M a.block w.heap.size with b|b
 ·exact b
 ·simp [World.cell?,k1Q b] at h
theorem Bg.keep(h:Bg w)(hs:w.heap.size<=w'.heap.size)(hc:∀g,(∃n:Int,w.cell? ⟨g,0,qd⟩=qh (.int .u8 n))\/(∃te pe,w.cell? ⟨g,0,qd⟩=qh (.iface te pe))->w'.heap[g]?=w.heap[g]?):Bg w':=by
 obtain⟨a,b,c,d⟩:=h;have f:=hc 4 (.inl ⟨_,a.1 0 (by decide)⟩);have i:=hc 2 (.inl ⟨_,b.1 0 (by decide)⟩);have e:=hc 3 (.inl ⟨_,(b.2 0 (by decide)).1⟩);have k:=hc 5 (.inr c);have l:=hc 6 (.inr d);refine⟨⟨fun j hj=>?_,k01 a.2 hs⟩,⟨fun j hj=>?_,fun j hj=>⟨?_,?_⟩⟩,?_,?_⟩
 ·exact(qa (a:=⟨4,j,qd⟩) f).trans (a.1 j hj)
 ·exact(qa (a:=⟨2,j,qd⟩) i).trans (b.1 j hj)
 ·exact(qa (a:=⟨3,2*j,qd⟩) e).trans (b.2 j hj).1
 ·exact(qa (a:=⟨3,2*j+1,qd⟩) e).trans (b.2 j hj).2
 ·obtain⟨te,pe,c⟩:=c;exact⟨te,pe,(qa (a:=⟨5,0,qd⟩) k).trans c⟩
 ·obtain⟨te,pe,d⟩:=d;exact⟨te,pe,(qa (a:=⟨6,0,qd⟩) l).trans d⟩
theorem Bg.below(h:Bg w)(hb:Below w.heap.size w w'):Bg w':=h.keep hb.size fun g hg=>hb.block g (by rcases hg with ⟨n,e⟩|⟨te,pe,e⟩<;>exact qfG e)
theorem Bg.grown{s:Scn.St}(h:Bg w)(hb:w.grownBy w' (qh b))(hs:ScAt w b s):Bg w':=h.keep hb.size fun g hg=>hb.block g (by rcases hg with ⟨n,e⟩|⟨te,pe,e⟩<;>exact qfG e) (fun e=>by cases e;have:=hs.c0;rcases hg with ⟨n,e⟩|⟨te,pe,e⟩<;>rw[e] at this<;>cases this)
end
namespace Scn
open Go Go.RowKit
theorem skip(b:Nat)(s:St)(n:Nat)(w:qc)(h:ScAt w b s)(hn:n<=s.rest.size):ql Tryz.prog 175 #[.pointer (qh ⟨b,0,qd⟩),.int .i64 (n:Int)] w (ScP b (s.skip n) (.tuple #[]) w):=by
 have c:=h.sm;have e:=h.c0;have f:=h.c1;have g:=h.fz 0;have i:=h.fz 1;have j:=h.lt;have H:=vv (h.skip hn);have k:(s.pos:Int)+(n:Int)<=65536:=by omega
 have d:(n:Int)<=(s.rest.size:Int):=by omega
 have a:=vv (q09 (q09 (qb w (qh b)) (p:=⟨b,0,qd⟩) (.inl rfl) (.string (drop s.rest n))) (p:=⟨b,1,qd⟩) (.inl rfl) (.int .i64 ((s.pos:Int)+(n:Int))));clear h;go_enter func175,ntmps175;go_wp2;go_region;go_end0;exact⟨rfl,H.o.drew,q39 a.o⟩
theorem qdn(s p:ByteArray)(w:qc):ql Tryz.prog 111 #[.string s,.string p] w fun e w'=>e=.returned (.bool (pre s p.data.toList))/\w=w':=(Tryz.strings_HasPrefix s p w).mono fun _ _ h=>⟨h.1,h.2.symm⟩
theorem has_off{s:St}(p:List UInt8)(h:s.code≠0):s.has p=qe:=by unfold St.has;rw[show(s.code==0)=qe by simpa using h];rfl
theorem has_on{s:St}(p:List UInt8)(h:s.code=0):s.has p=pre s.rest p:=by unfold St.has;rw[show(s.code==0)=qj by simpa using h];rfl
theorem pre_le{r:ByteArray}{p:ByteArray}(h:pre r p.data.toList=qj):p.size<=r.size:=by
 have:=(List.isPrefixOf_iff_prefix.1 (show p.data.toList.isPrefixOf r.data.toList=qj from h)).length_le
 rwa [q0T,q0T] at this
def St.past(s:St)(p:ByteArray):St:=if s.has p.data.toList then s.skip p.size else s
theorem has(b:Nat)(s:St)(p:ByteArray)(w:qc)(h:ScAt w b s):ql Tryz.prog 171 #[.pointer (qh ⟨b,0,qd⟩),.string p] w (ScP b (s.past p) (.bool (s.has p.data.toList)) w):=by
 have n:=h.c0;have q:=h.c2;have r:=h.lt;have d:=vv h;by_cases hc:s.code=0
 ·have j:((s.code:Int) != 0)=qe:=by rw[hc];rfl
  have f:=vv (has_on p.data.toList hc);have g:=vv (qdn s.rest p w);cases hb:pre s.rest p.data.toList with
  | false =>have a:Hid (s.has p.data.toList=qe):=vv (f.o.trans hb);have c:=vv hb;clear h hc hb;go_enter func171,ntmps171;go_wp2_with (go_at_call 111;refine g.o.mono ?_;rintro e i ⟨rfl,rfl⟩;rw[c.o]);go_ret;exact⟨by rw[a.o];rfl,by unfold St.past;rw[a.o];exact d.o,qb _ _⟩
  | true =>
   have a:Hid (s.has p.data.toList=qj):=vv (f.o.trans hb);have c:=vv hb;have k:=vv (skip b s p.size w h (pre_le hb));clear h hc hb;go_enter func171,ntmps171;go_wp2_with (first
    | (go_at_call 111;refine g.o.mono ?_;rintro e i ⟨rfl,rfl⟩;rw[c.o])
    | (go_at_call 175;refine k.o.mono ?_;rintro e i ⟨rfl,l,m⟩))
   go_ret;exact⟨by rw[a.o];rfl,by unfold St.past;rw[a.o];exact l,m⟩
 ·have j:((s.code:Int) != 0)=qj:=by rw[k1r];omega
  have a:=vv (has_off p.data.toList hc);clear h hc;go_enter func171,ntmps171;go_wp2;go_ret;exact⟨by rw[a.o];rfl,by unfold St.past;rw[a.o];exact d.o,qb _ _⟩
theorem q0W(v:qk):w.grownBy (w.setCell ⟨b,2,qd⟩ v) (qh b):=q09 (qb w (qh b)) (.inl rfl) v
theorem fail(b:Nat)(s:St)(c:Nat)(w:qc)(h:ScAt w b s)(hg:Bg w):ql Tryz.prog 67 #[.pointer (qh ⟨b,0,qd⟩),.int .i64 (c:Int)] w (ScP b (s.fail c) (.tuple #[]) w):=by
 have y:=h.c0;have z:=h.c2;have C:=h.fz 2;have D:=h.lt;by_cases hc:s.code=0
 ·have p:((s.code:Int) != 0)=qe:=by rw[hc];rfl
  have a:=h.put c;have q:Bg (w.setCell ⟨b,2,qd⟩ (.int .i64 (c:Int))):=hg.grown (q0W _) h;have k:=vv (Tryz.utf8_DecodeRuneInString s.rest _ q.u8);have r:=a.c0;have t:=a.c2;have u:=a.fz 2;have v:=a.lt;have i:Hid (s.fail c=if(dec1 s.rest).1=65533/\(dec1 s.rest).2=1 then s.put 114 else s.put c):=vv (by unfold St.fail;rw[if_pos hc]);obtain⟨R,l⟩:=yx ((dec1 s.rest).1);obtain⟨K,m⟩:=yx ((dec1 s.rest).2);rw[show Lib.decodeGo s.rest=dec1 s.rest from rfl,<- l,<- m] at k;rw[<- l,<- m] at i;obtain⟨E,g⟩:=yx (w.setCell ⟨b,2,qd⟩ (.int .i64 (c:Int)));have F:=vv g;have G:=vv (show w.grownBy E (qh b) by rw[g];exact q0W _);rw[<- g] at k r t u v a;have x:=vv a;clear l m g a h hg q hc;go_enter func67,ntmps67;go_wp2_with (first|rw[<- F.o]|fail);refine k.o.mono ?_;rintro e L ⟨rfl,n⟩;have f:=vv (x.o.below n x.o.lt);have j:=vv (q00 G.o (q03 n (qh b)));have M:=f.o.c2;have N:=f.o.fz 2;have O:=f.o.lt;clear n r t u v y z C D p;by_cases hr:R=65533
  ·have H:((R:Int)==65533)=qj:=by rw[hr];rfl
   by_cases hk:K=1
   ·have I:((K:Int)==1)=qj:=by rw[hk];rfl
    have d:Hid (s.fail c=s.put 114):=vv (by rw[i.o,if_pos ⟨hr,hk⟩]);clear hr hk;go_wp2;go_end0;exact⟨rfl,by rw[d.o];exact f.o.put 114,q00 j.o (q0W _)⟩
   ·have I:((K:Int)==1)=qe:=by rw[k02];omega
    have d:Hid (s.fail c=s.put c):=vv (by rw[i.o,if_neg fun e=>hk e.2]);clear hr hk;go_wp2;go_end0;exact⟨rfl,by rw[d.o];exact f.o,j.o⟩
  ·have H:((R:Int)==65533)=qe:=by rw[k02];omega
   have d:Hid (s.fail c=s.put c):=vv (by rw[i.o,if_neg fun e=>hr e.1]);clear hr;go_wp2;go_end0;exact⟨rfl,by rw[d.o];exact f.o,j.o⟩
 ·have p:((s.code:Int) != 0)=qj:=by rw[k1r];omega
  have d:Hid (s.fail c=s):=vv (by unfold St.fail;rw[if_neg hc]);have J:=vv h;clear h hc hg;go_enter func67,ntmps67;go_wp2;refine bodyPost_ret (results_none rfl _ _ _) rfl ?_;exact⟨rfl,by rw[d.o];exact J.o,qb _ _⟩
theorem q99(h1:65<=c)(h2:c<=90):lower c=c+32:=by unfold lower;rw[if_pos ⟨h1,h2⟩]
theorem q7T(h:¬(65<=c/\c<=90)):lower c=c:=by unfold lower;rw[if_neg h]
theorem q3d:∀(l q:List UInt8),foldL l q=qj↔q.length<=l.length/\∀j,j<q.length->lower (l.getD j 0).toNat=(q.getD j 0).toNat
 | l,[]=>by simp [foldL]
 | [],p::q=>by simp [foldL]
 | c::l,p::q=>by
  simp only[foldL,k0C,k2r];rw[q3d l q];constructor
  ·rintro⟨h1,h2,h3⟩;refine⟨by simpa using h2,fun j hj=>?_⟩;cases j with
   | zero=>exact h1
   | succ j=>exact h3 j (by simpa using hj)
  ·rintro⟨h2,h3⟩;exact⟨h3 0 (by simp),by simpa using h2,fun j hj=>h3 (j+1) (by simpa using hj)⟩
theorem q9r(t:ByteArray)(j:Nat)(h:j<t.size):t.data.toList.getD j 0=t[j]:=by rw[k08,k0n (by rw[q0T];exact h)];rfl
def St.over(s:St)(p:ByteArray):St:=if s.fold p.data.toList then s.skip p.size else s
theorem fold(b:Nat)(s:St)(p:ByteArray)(w:qc)(h:ScAt w b s)(hp:p.size<=65536):ql Tryz.prog 113 #[.pointer (qh ⟨b,0,qd⟩),.string p] w (ScP b (s.over p) (.bool (s.fold p.data.toList)) w):=by
 have T:=h.c0;have U:=h.c2;have V:=h.lt;have W:=vv h;have f:Hid (s.fold p.data.toList=qe->ScP b (s.over p) (.bool (s.fold p.data.toList)) w (.returned (.bool qe)) w):=vv fun e=>⟨by rw[e],by unfold St.over;rw[e];exact h,qb _ _⟩
 by_cases hc:s.code=0
 ·have J:((s.code:Int) != 0)=qe:=by rw[hc];rfl
  have i:s.fold p.data.toList=foldL s.rest.data.toList p.data.toList:=by unfold St.fold;rw[hc];rfl
  by_cases hs:s.rest.size<p.size
  ·have a:Hid (s.fold p.data.toList=qe):=vv (by rw[i,Bool.eq_false_iff];intro e;have:=((q3d _ _).1 e).1;rw[q0T,q0T] at this;omega);have v:qf ((s.rest.size:Int)<(p.size:Int))=qj:=k03 (by omega);clear h hc i v;go_enter func113,ntmps113;go_wp2;go_ret;exact f.o a.o
  have z:=vv i;have K:=vv (skip b s p.size w h (by omega));have v:qf ((s.rest.size:Int)<(p.size:Int))=qe:=k00 (by omega);have R:=h.sm;have S:(s.rest.size:Int)<=65536:=by omega
  have F:p.size<=s.rest.size:=by omega
  clear h hc i hs;go_enter func113,ntmps113;go_wp2;go_loop [24] (fun t=>∃k:Nat,k<=p.size/\t=.int .i64 (k:Int)/\∀j,j<k->lower (s.rest.data.toList.getD j 0).toNat=(p.data.toList.getD j 0).toNat) (fun t=>p.size-(intOf t).toNat)
  case atStart=>exact⟨0,k0d _,rfl,fun j hj=>absurd hj (by omega)⟩
  case round =>
   obtain⟨k,L,rfl,u⟩:=hrel;have C:=vv u;clear u;by_cases hks:k<p.size
   ·have G:k<s.rest.size:=by omega
    have H:(s.rest[k]).toNat<256:=k1q _;have m:=q9r s.rest k G;have n:=q9r p k hks;have c:Hid (lower (s.rest[k]).toNat=(p[k]).toNat->∀j,j<k+1->lower (s.rest.data.toList.getD j 0).toNat=(p.data.toList.getD j 0).toNat):=vv (fun e j hj=>by
     rcases(by omega:j<k\/j=k) with M|rfl
     ·exact C.o j M
     ·rw[m,n];exact e)
    have d:Hid (lower (s.rest[k]).toNat≠(p[k]).toNat->s.fold p.data.toList=qe):=vv (fun e=>by rw[z.o,Bool.eq_false_iff];intro N;have:=((q3d _ _).1 N).2 k (by rw[q0T];exact hks);rw[m,n] at this;exact e this);clear m n;obtain⟨x,hx⟩:∃x,(s.rest[k]).toNat=x:=⟨_,rfl⟩;obtain⟨y,O⟩:∃y,(p[k]).toNat=y:=⟨_,rfl⟩;rw[hx] at H c d;rw[O] at c d;by_cases hup:65<=x/\x<=90
    ·rw[q99 hup.1 hup.2] at c d;have l:qf ((65:Int)<=(x:Int))=qj:=k03 (by omega);have D:qf ((x:Int)<=90)=qj:=k03 (by omega);have g:((x:Int)+32)%256=((x+32:Nat):Int):=by omega
     by_cases he:x+32=y
     ·have q:((x:Int)+32 != (y:Int))=qe:=by rw[bne_eq_false_iff_eq];omega
      have a:=vv he;clear he hup;go_wp2;go_round
      case rel=>exact⟨k+1,by omega,by go_num,c.o a.o⟩
      case measure=>simp [intOf];omega
     ·have q:((x:Int)+32 != (y:Int))=qj:=by rw[k1r];omega
      have a:=vv he;clear he hup;go_wp2;go_ret;exact f.o (d.o a.o)
    ·rw[q7T hup] at c d;have g:(qf ((65:Int)<=(x:Int)) && qf ((x:Int)<=90))=qe:=by
      rcases(by omega:x<65\/90<x) with h|h
      ·rw[k00 (p:=(65:Int)<=(x:Int)) (by omega)];rfl
      ·rw[k00 (p:=(x:Int)<=90) (by omega),Bool.and_false]
     by_cases he:x=y
     ·have q:((x:Int) != (y:Int))=qe:=by rw[bne_eq_false_iff_eq];omega
      have a:=vv he;rcases(by omega:x<65\/(65<=x/\90<x)) with h|⟨h,r⟩
      ·have l:qf ((65:Int)<=(x:Int))=qe:=k00 (by omega);clear he hup g h;go_wp2;go_round
       case rel=>exact⟨k+1,by omega,by go_num,c.o a.o⟩
       case measure=>simp [intOf];omega
      ·have l:qf ((65:Int)<=(x:Int))=qj:=k03 (by omega);have D:qf ((x:Int)<=90)=qe:=k00 (by omega);clear he hup g h r;go_wp2;go_round
       case rel=>exact⟨k+1,by omega,by go_num,c.o a.o⟩
       case measure=>simp [intOf];omega
     ·have q:((x:Int) != (y:Int))=qj:=by rw[k1r];omega
      have a:=vv he;rcases(by omega:x<65\/(65<=x/\90<x)) with h|⟨h,r⟩
      ·have l:qf ((65:Int)<=(x:Int))=qe:=k00 (by omega);clear he hup g h;go_wp2;go_ret;exact f.o (d.o a.o)
      ·have l:qf ((65:Int)<=(x:Int))=qj:=k03 (by omega);have D:qf ((x:Int)<=90)=qe:=k00 (by omega);clear he hup g h r;go_wp2;go_ret;exact f.o (d.o a.o)
   ·have I:k=p.size:=by omega
    subst I;have E:Hid (s.fold p.data.toList=qj):=vv (by rw[z.o,q3d,q0T,q0T];exact⟨F,C.o⟩);clear L hks;go_wp2_with fail;refine K.o.mono ?_;rintro e X ⟨rfl,P,Q⟩;go_wp2;go_ret;exact⟨by rw[E.o];rfl,by unfold St.over;rw[E.o];exact P,Q⟩
 ·have J:((s.code:Int) != 0)=qj:=by rw[k1r];omega
  have a:Hid (s.fold p.data.toList=qe):=vv (by unfold St.fold;rw[show(s.code==0)=qe by simpa using hc];rfl);clear h hc;go_enter func113,ntmps113;go_wp2;go_ret;exact f.o a.o
end Scn
end Go.Proofs.YthopehoklmgphaaGreatDoor
