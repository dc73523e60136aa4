/- Lemmas. -/
import Derived.Test.YtabcgemembkkcaaGreatDoorMirrBL
import Derived.Test.YtabcgemembkkcaaGreatDoorMirrBJ
import Derived.Test.YtabcgemembkkcaaGreatDoorMirrBD
set_option linter.all false
set_option maxHeartbeats 4000000
set_option maxRecDepth 100000
open Go.Proofs.Tryz
open Go renaming World->qa,RowKit.Below.refl->qb,Value->qg,bodyPost_ret->qh,Addr->qi,Calls->qj
open Go.RowKit renaming Below->qc
open Option renaming some->qd,none->qf
open Go.Proofs.Tryz renaming prog->qe
namespace Go.Proofs.YtabcgemembkkcaaGreatDoor
variable{w w1 w2 w':qa}{g n c N:Nat}{t:TypeId}{cs old:List qg}{A:Option qi}{xs:List Nat}
namespace Hx
open Go Go.RowKit R5 Scn Fms Exa
def RdP(bits flags:Nat)(w:qa)(e:Ending)(w':qa):Prop:=
 e=.returned (.tuple #[.int .u64 (bits:Int),.int .u8 (flags:Int),.nilIface])/\qc w.heap.size w w'
end Hx
section
open Go Go.RowKit Scn Hx
abbrev q33:=Nat × TypeId × List qg
structure Ctx(w:qa)(bs:List q33)(w':qa):Prop where
 low:qc w.heap.size w w'
 all:∀x∈bs,Blk w' x.1 x.2.1 x.2.2
theorem Ctx.nil(w:qa):Ctx w [] w:=⟨qb _ _,fun _ h=>by cases h⟩
theorem Ctx.step{bs:List q33}(h:Ctx w bs w1)(hb:qc w1.heap.size w1 w2):Ctx w bs w2:=⟨h.low.trans (hb.mono h.low.size),fun x hx=>(h.all x hx).below hb⟩
theorem Ctx.drew{bs:List q33}(h:Ctx w bs w1):Ctx w bs w1.drew:=h.step (q05 (qb _ _))
theorem Ctx.undrew{bs:List q33}(h:Ctx w bs w1)(hb:qc w1.heap.size w1.drew w2):Ctx w bs w2:=h.step ⟨hb.os,hb.tape,hb.output,hb.size,hb.block⟩
theorem Ctx.new{bs:List q33}(h:Ctx w bs w1)(t:TypeId)(cs:List qg)(hg:g=w1.heap.size):Ctx w ((g,t,cs)::bs) (w1.alloc (.cells cs.toArray t)):=by
 subst hg;refine⟨h.low.trans (((qb w1.heap.size w1).alloc lr _).mono h.low.size),fun x hx=>?_⟩;rcases k1b.1 hx with rfl|hx
 ·exact Blk.made _ _ _
 ·exact(h.all x hx).alloc _
theorem Ctx.get{bs:List q33}(h:Ctx w bs w')(i:Nat)(hi:bs[i]?=qd (g,t,cs)):Blk w' g t cs:=h.all (g,t,cs) (List.mem_of_getElem? hi)
theorem Ctx.put{bs:List q33}(h:Ctx w bs w1)(i:Nat)(hi:bs[i]?=qd (g,t,old))(hne:∀j x,j≠i->bs[j]?=qd x->x.1≠g)(hw:w.heap.size<=g)
  (hb:Blk w2 g t cs) (hg:w1.grownBy w2 (qd g)):Ctx w (bs.set i (g,t,cs)) w2:=by
 refine⟨q0a h.low hg h.low.size hw,fun x hx=>?_⟩;obtain⟨j,a⟩:=List.getElem?_of_mem hx;by_cases e:j=i
 ·subst e;rw[List.getElem?_set_self' ] at a;rw[hi] at a;cases a;exact hb
 ·rw[List.getElem?_set_ne (fun k=>e k.symm)] at a;exact(h.all x (List.mem_of_getElem? a)).grown hg (fun k=>hne j x e a (k1V k).symm)
theorem Ctx.write{bs:List q33}(h:Ctx w bs w1)(hg:w1.grownBy w2 (qd g))(hw:w.heap.size<=g)(hne:∀x∈bs,x.1≠g):Ctx w bs w2:=⟨q0a h.low hg h.low.size hw,fun x hx=>(h.all x hx).grown hg (fun k=>hne x hx (k1V k).symm)⟩
theorem Ctx.row{bs:List q33}(h:Ctx w bs w1){row:Option Nat}(hg:w1.grownBy w2 row)(hw:∀b,row=qd b->w.heap.size<=b/\∀x∈bs,x.1≠b):Ctx w bs w2:=by refine⟨⟨hg.os.trans h.low.os,hg.tape.trans h.low.tape,hg.output.trans h.low.output,k06 h.low.size hg.size,fun i hi=>?_⟩,fun x hx=>(h.all x hx).grown hg (fun k=>(hw _ k).2 x hx rfl)⟩;exact(hg.block i (k02 hi h.low.size) (fun k=>by have:=(hw _ k.symm).1;omega)).trans (h.low.block i hi)
theorem Ctx.fs{bs:List q33}{l:List Ob}(h:Ctx w bs w1)(hf:Fs l w1 w2)(hw:∀p∈l,w.heap.size<=p.1)(hne:∀x∈bs,∀p∈l,p.1≠x.1):Ctx w bs w2:=⟨hf.below h.low h.low.size hw,fun x hx=>(hf.block x.1 (h.all x hx).lt (hne x hx)).trans (h.all x hx)⟩
theorem Rd.else_(h:Rd w A n c xs)(hb:Blk w g t cs)(hcs:cs.all (fun v=>match v with|.int _ _=>false|_=>true)=true)(hg:w.grownBy w' (qd g)):Rd w' A n c xs:=⟨h.len,h.le,h.sm,h.lim,fun hn=>by
  obtain⟨b,off,e,hlt,hc⟩:=h.cell hn;have hne:b≠g:=by rintro rfl;have a:=hc 0 hn;rw[hb.cell] at a;have:=k1M.1 hcs _ (List.mem_of_getElem? a);simp at this
  exact⟨b,off,e,k02 hlt hg.size,fun j hj=>(q1m hg (p:=⟨b,off+j,qf⟩) hlt hne).trans (hc j hj)⟩⟩
theorem Ctx.rd{bs:List q33}(h:Ctx w bs w')(hr:Rd w A n c xs):Rd w' A n c xs:=hr.below h.low rfl
theorem Ctx.std{bs:List q33}(h:Ctx w bs w')(hs:Std w):Std w':=hs.below h.low
structure Cx(w:qa)(bs:List q33)(w':qa):Prop extends Ctx w bs w' where
 pw:(bs.map (·.1)).Pairwise (fun x y=>y<x)
 ge:∀x∈bs,w.heap.size<=x.1
theorem Cx.nil(w:qa):Cx w [] w:=⟨Ctx.nil w,.nil,fun _ h=>by cases h⟩
theorem Cx.start{w0:qa}(h:qc w.heap.size w w0):Cx w [] w0:=⟨⟨h,fun _ h=>by cases h⟩,.nil,fun _ h=>by cases h⟩
theorem Cx.step{bs:List q33}(h:Cx w bs w1)(hb:qc w1.heap.size w1 w2):Cx w bs w2:=⟨h.toCtx.step hb,h.pw,h.ge⟩
theorem Cx.new{bs:List q33}(h:Cx w bs w1)(t:TypeId)(cs:List qg)(hg:g=w1.heap.size):Cx w ((g,t,cs)::bs) (w1.alloc (.cells cs.toArray t)):=by
 refine⟨h.toCtx.new t cs hg,?_,fun x hx=>?_⟩
 ·rw[List.map_cons];refine List.Pairwise.cons (fun y hy=>?_) h.pw;obtain⟨x,hx,rfl⟩:=List.mem_map.1 hy;show x.1<g;rw[hg];exact(h.all x hx).lt
 ·rcases k1b.1 hx with rfl|hx
  ·show _<=g;rw[hg];exact h.low.size
  ·exact h.ge x hx
theorem qbi{l:List Nat}(h:l.Pairwise (fun x y=>y<x)):∀{i j a b:Nat},i≠j->l[i]?=qd a->l[j]?=qd b->a≠b:=by
 induction h with
 | nil=>intro i j a b _ h;cases h
 | @cons x l hx _ ih =>
  intro i j a b f c d
  match i,j with
  | 0,0=>exact absurd rfl f
  | 0,j+1 =>have:=hx b (List.mem_of_getElem? d);cases c;omega
  | i+1,0 =>have:=hx a (List.mem_of_getElem? c);cases d;omega
  | i+1,j+1=>exact ih (fun e=>f (by rw[e])) c d
theorem Cx.put{bs:List q33}(h:Cx w bs w1)(i:Nat)(hi:bs[i]?=qd (g,t,old))(hb:Blk w2 g t cs)(hg:w1.grownBy w2 (qd g)):Cx w (bs.set i (g,t,cs)) w2:=by
 have a:(bs.map (·.1))[i]?=qd g:=by rw[List.getElem?_map,hi];rfl
 have b:(bs.set i (g,t,cs)).map (·.1)=bs.map (·.1):=by
  rw[List.map_set];refine List.ext_getElem? fun k=>?_
  by_cases e:i=k
  ·subst e;rw[List.getElem?_set_self' ,a];rfl
  ·rw[List.getElem?_set_ne e]
 refine⟨h.toCtx.put i hi (fun j x hj hx=>?_) (h.ge _ (List.mem_of_getElem? hi)) hb hg,by rw[b];exact h.pw,fun x hx=>?_⟩
 ·have c:(bs.map (·.1))[j]?=qd x.1:=by rw[List.getElem?_map,hx];rfl
  exact qbi h.pw hj c a
 ·have d:x.1∈bs.map (·.1):=by rw[<- b];exact List.mem_map_of_mem hx
  obtain⟨y,f,e⟩:=List.mem_map.1 d;rw[<- e];exact h.ge y f
theorem Cx.fs{bs:List q33}{o k:Nat}(h:Cx w bs w1)(hf:Fs [(g,o,k)] w1 w2)(hw:∀x∈bs,x.1<g)(hwg:w.heap.size<=g):Cx w bs w2:=⟨h.toCtx.fs hf (by intro p hp;rw[k0i.1 hp];exact hwg) (by intro x hx p hp;rw[k0i.1 hp];have:=hw x hx;show g≠x.1;omega),h.pw,h.ge⟩
theorem Cx.lt{bs:List q33}(h:Cx w bs w1):∀x∈bs,x.1<w1.heap.size:=fun x hx=>(h.all x hx).lt
theorem Cx.drew{bs:List q33}(h:Cx w bs w1):Cx w bs w1.drew:=h.step (q05 (qb _ _))
theorem Cx.undrew{bs:List q33}(h:Cx w bs w1)(hb:qc w1.heap.size w1.drew w2):Cx w bs w2:=h.step ⟨hb.os,hb.tape,hb.output,hb.size,hb.block⟩
theorem q0u{P:Program}{o:Oper}{a:Act}{K:Act->qa->Prop}{Q:Exit->Act->qa->Prop}(ty:TypeId)(x y:Operand)(ho:o.op=.store ty x y)
  (g:Nat) (cells:List qg) (hx:a.eval x=.pointer (qd ⟨g,0,qf⟩)) (hy:a.eval y=.agg cells.toArray)
  (t:TypeId) (old:List qg) (hg:Blk w g t old) (hi:(P.info? ty).map (·.size)=qd cells.length)
  (hold:old.length=cells.length) (h1:cells.all (·.oneCell')=true)
  (h:∀w',Blk w' g t cells->w.grownBy w' (qd g)->K (a.put o.dst undef) w'):o.wp P a w K Q:=by
 refine wp_store_row ty x y ho g cells.toArray hx hy t old.toArray hg (by simpa using hi) (by simpa using hold) (by simpa using h1) (h _ (setRow_heap w g _ _ t _ hg) ⟨rfl,rfl,rfl,by simp [World.setRow],fun i hi b=>?_⟩);unfold World.setRow;rw[Array.getElem?_modify,k0o (fun e=>b (by rw[e]))]
theorem Rd.apart_(h:Rd w A n c xs)(hb:Blk w g t cs)(hcs:cs.all (fun v=>match v with|.int .u32 _=>false|_=>true)=true)(hg:w.grownBy w' (qd g)):Rd w' A n c xs:=⟨h.len,h.le,h.sm,h.lim,fun hn=>by
  obtain⟨b,off,e,hlt,hc⟩:=h.cell hn;have hne:b≠g:=by rintro rfl;have a:=hc 0 hn;rw[hb.cell] at a;have:=k1M.1 hcs _ (List.mem_of_getElem? a);simp at this
  exact⟨b,off,e,k02 hlt hg.size,fun j hj=>(q1m hg (p:=⟨b,off+j,qf⟩) hlt hne).trans (hc j hj)⟩⟩
structure RN(w:qa)(A:Option qi)(n c N:Nat):Prop where
 r:Rd w A n c (toL N)
theorem RN.below(h:RN w A n c N)(hb:qc w.heap.size w w'):RN w' A n c N:=⟨h.r.below hb rfl⟩
theorem RN.apart_(h:RN w A n c N)(hb:Blk w g t cs)(hcs:cs.all (fun v=>match v with|.int .u32 _=>false|_=>true)=true)(hg:w.grownBy w' (qd g)):RN w' A n c N:=⟨h.r.apart_ hb hcs hg⟩
end
namespace Pnt
open Go Go.RowKit R5
theorem qbU(x y z:Nat)(w:qa)(hx:x<4294967296)(hy:y<4294967296)(hz:z<=1):qj qe 232 #[.int .u32 (x:Int),.int .u32 (y:Int),.int .u32 (z:Int)] w fun e w'=>e=.returned (.tuple #[.int .u32 (((x+y+z)%4294967296:Nat):Int),.int .u32 (((x+y+z)/4294967296:Nat):Int)])/\w=w':=by go_enter func232,ntmps232;go_wp2;go_ret2;refine⟨?_,rfl⟩;congr 3
theorem qcB(r x d:Nat)(w:qa)(hr:r<d)(hx:x<4294967296)(hd:d<4294967296):qj qe 342 #[.int .u32 (r:Int),.int .u32 (x:Int),.int .u32 (d:Int)] w fun e w'=>e=.returned (.tuple #[.int .u32 (((r*4294967296+x)/d:Nat):Int),.int .u32 (((r*4294967296+x)%d:Nat):Int)])/\qc w.heap.size w w':=by
 have b:((d:Int)==0)=false:=by rw[k09];omega
 have c:decide ((d:Int)<=(r:Int))=false:=k00 (by omega);have h:(r*4294967296+x)/d<4294967296:=k0s (by have:(r+1)*4294967296<=d*4294967296:=k0q _ hr;omega);have a:Hid (((x:Int)+4294967296*(r:Int))/(d:Int)%4294967296=(((r*4294967296+x)/d:Nat):Int)/\((x:Int)+4294967296*(r:Int))%(d:Int)%4294967296=(((r*4294967296+x)%d:Nat):Int)):=vv (by
  have e:(x:Int)+4294967296*(r:Int)=((r*4294967296+x:Nat):Int):=by omega
  have i:(r*4294967296+x)%d<d:=k0j _ (by omega);rw[e,<- k1L,<- k1Y];generalize (r*4294967296+x)/d=Q at *
  generalize (r*4294967296+x)%d=R at *
  exact⟨by omega,by omega⟩)
 have f:=qa1 x r hx (by omega);have g:(r:Int)<=4294967294:=by omega
 go_enter func342,ntmps342;go_wp2;go_quiet (fail);go_wp2;go_ret2;refine⟨?_,q0k (qb _ _) _⟩;show Ending.returned (.tuple #[.int .u32 (((x:Int)+4294967296*(r:Int))/(d:Int)%4294967296),.int .u32 (((x:Int)+4294967296*(r:Int))%(d:Int)%4294967296)])=_;rw[a.o.1,a.o.2]
theorem qcV(A:Option qi)(n c:Nat)(xs:List Nat)(w:qa)(hr:Rd w A n c xs)(h:words (val xs)<=16384):qj qe 124 #[.slice A n c] w fun e w'=>∃A' m,e=.returned (.tuple #[q0I A' m m,.int .i64 0])/\Rd w' A' m m (toL (val xs))/\(∀a,A'=qd a->A=qd a)/\qc w.heap.size w w':=by
 obtain⟨t,i⟩:=yx (w.alloc (.cells #[.slice qf 0 0] 37));have j:Ctx w [(w.heap.size,37,[.slice qf 0 0])] t:=by rw[i];exact(Ctx.nil w).new _ [_] rfl
 have I:=vv (Nat_.trimmed A n c xs t (j.rd hr));have J:=vv i;have K:=vv j;have L:=vv h;have Q:Hid (∀a,A=qd a->0<n->a.block<w.heap.size):=vv fun a e hn=>by obtain⟨b,off,u,M,-⟩:=hr.cell hn;rw[e] at u;cases u;exact M
 clear i j hr h;go_enter func124,ntmps124;go_wp2_with fail;rw[<- J.o];refine I.o.mono ?_;rintro e x ⟨A',m,rfl,k,y,z⟩;have R:m<=16384:=by rw[<- k.words];exact L.o
 have d:=vv (K.o.step z);have D:=vv k;have E:=vv y;have C:=d.o.get 0 rfl |>.cell 0;have N:=d.o.get 0 rfl |>.lt;have S:=d.o.get 0 rfl |>.fz 0;simp only[List.getElem?_cons_zero] at C;obtain⟨l,f⟩:=yx ((x.setCell ⟨w.heap.size,0,qf⟩ (.slice A' m m)).alloc (.cells #[.slice A' m m] 37));have q:Rd l A' m m (toL (val xs)):=by rw[f];have g:=D.o.else_ (w':=x.setCell ⟨w.heap.size,0,qf⟩ (.slice A' m m)) (d.o.get 0 rfl) rfl (Go.Proofs.YtabcgemembkkcaaGreatDoor.only_setCell (World.grownBy.refl _ _) (.inl rfl) _);exact g.below ((qb _ _).alloc lr _) rfl
 have r:qc w.heap.size w l:=by rw[f];have g:=d.o.low.setCell (p:=⟨w.heap.size,0,qf⟩) lr (.slice A' m m);exact g.alloc g.size _
 have s:l.cell? ⟨w.heap.size,0,qf⟩=qd (.slice A' m m):=by rw[f];exact(((qb _ _).alloc lr _).cell (p:=⟨w.heap.size,0,qf⟩) (by simp [World.setCell];exact N)).trans (q0p C)
 have F:=vv q;have G:=vv r;have O:=vv s;have H:=vv f;clear z k y f q r s;go_wp2;rw[<- H.o];have P:=O.o;exact qh (v:=.tuple #[q0I A' m m,.int .i64 0]) (by simp [results,results124,go_sem,P]) rfl ⟨A',m,rfl,F.o,E.o,G.o⟩
end Pnt
namespace Pnt
open Go Go.RowKit R5 Scn
theorem Mul(A:Option qi)(n c N:Nat)(B:Option qi)(m d M:Nat)(w:qa)(ha:Rd w A n c (toL N))(hb:Rd w B m d (toL M))(hn:n<=16384)(hm:m<=16384)(hnm:n+m<=16385)(hs:words (N*M)<=16384):qj qe 54 #[q0I A n c,q0I B m d] w (NatP (N*M) w):=by
 have HK:=vv fun g w' (h:qc w.heap.size w w') (K:Blk w' g 37 [.slice A n c,.slice B m d])=>q48 A B n m c d N M g w' (ha.below h rfl) (hb.below h rfl) hn hm K
 have b9:=vv fun s n' c' xs w' (hr:Rd w' s n' c' xs) (hv:val xs=N*M)=>qcV s n' c' xs w' hr (by rw[hv];exact hs)
 have HA:=vv fun w' (h:qc w.heap.size w w')=>ha.below h rfl
 have HB:=vv fun w' (h:qc w.heap.size w w')=>hb.below h rfl
 have c1:=vv ha.len;have c2:=vv hb.len;have c3:=Go.Proofs.YtabcgemembkkcaaGreatDoor.AB.mk (n+m) (by omega);rw[show((n+m:Nat):Int)=(n:Int)+(m:Int) by omega] at c3;have d7:(n:Int)<=16384:=by omega
 have d8:(m:Int)<=16384:=by omega
 have d3:(n:Int)+(m:Int)<=16385:=by omega
 obtain⟨t,G⟩:=yx (((w.alloc (.cells #[.slice A n c] 37)).alloc (.cells #[.slice B m d] 37)).alloc (.cells #[.slice qf 0 0] 37));have x:Ctx w [(w.heap.size+1+1,37,[.slice qf 0 0]),(w.heap.size+1,37,[.slice B m d]),(w.heap.size,37,[.slice A n c])] t:=by rw[G];exact(((Ctx.nil w).new _ [_] rfl).new _ [_] (by simp)).new _ [_] (by simp)
 have a3:t.heap.size=w.heap.size+1+1+1:=by rw[G];simp
 have HW:=vv G;have c4:=vv a3;have HC:=vv x;have E:=x.get 2 rfl |>.cell 0;have X:=x.get 2 rfl |>.lt;have F:=x.get 1 rfl |>.cell 0;have Y:=x.get 1 rfl |>.lt;simp only[List.getElem?_cons_zero] at E F;clear G x a3 ha hb hs;go_enter func54,ntmps54;go_wp2_with fail;rw[<- HW.o];go_wp2_with fail;have K:Blk (t.alloc (.cells #[.slice A n c,.slice B m d] 37)) (w.heap.size+1+1+1) 37 [.slice A n c,.slice B m d]:=by rw[<- c4.o];exact Blk.made t 37 [.slice A n c,.slice B m d]
 have a4:qc t.heap.size t (t.alloc (.cells #[.slice A n c,.slice B m d] 37)):=(qb _ _).alloc lr _;have O:=vv (HC.o.step a4);refine(HK.o _ _ O.o.low K).mono ?_;rintro e z ⟨rfl,hB⟩;have f:=vv (O.o.step hB);clear hB E X F Y a4 K O HC;have E:=f.o.get 2 rfl |>.cell 0;have X:=f.o.get 2 rfl |>.lt;have F:=f.o.get 1 rfl |>.cell 0;have Y:=f.o.get 1 rfl |>.lt;simp only[List.getElem?_cons_zero] at E F;go_wp2;go_quiet (fail);go_wp2;go_loopw [43] (fun i wr=>∃(k:Nat) (U:List Nat),i=.int .i64 k/\k<=n/\U.length=n+m/\Own wr z.heap.size 54 U/\val (U.take (k+m))=val ((toL N).take k)*val (toL M)/\qc z.heap.size z wr) (fun i _=>n-(intOf i).toNat)
 case atStart=>exact⟨0,List.replicate (n+m) 0,rfl,k0x _,by simp,Own.made _ _ _,by simp [val,k2y,q0b],(q0k (qb _ _) _).alloc lr _⟩
 case round =>
  obtain⟨k,U,rfl,hk,c5,P,C,H⟩:=hrel;have HV:=vv C;have Z:=vv c5;have Q:=vv H;have HO:=vv P;have D:=f.o.low.trans (H.mono f.o.low.size);have I:=HA.o _ D;clear C D E X F Y;by_cases hkn:k<n
  ·obtain⟨b,off,e,d9,a1⟩:=I.cell (by omega);have hx:=a1 k hkn;have a5:=I.nth_lt k;clear a1 I P H;subst e;have e0:(k:Int)<=16384:=by omega
   have s1:(k:Int)+(m:Int)+1<=(n:Int)+(m:Int):=by omega
   go_wp2;go_loopw [12,63] (fun q i wx=>∃(j y:Nat) (V:List Nat),i=.int .i64 j/\j<=m/\q=.int .u64 y/\y<4294967296/\V.length=n+m/\Own wx z.heap.size 54 V /\(∀p,k+j<=p->nth V p=nth U p)/\val (V.take (k+j))+4294967296^(k+j)*y=val (U.take (k+j))+4294967296^k*(nth (toL N) k*val ((toL M).take j))/\qc z.heap.size z wx) (fun _ i _=>m-(intOf i).toNat)
   case atStart=>exact⟨0,0,U,rfl,k0x _,rfl,by omega,Z.o,HO.o,fun _ _=>rfl,by simp [val],Q.o⟩
   case round =>
    clear hx;obtain⟨j,y,V,rfl,hj,rfl,hy,a6,l,a2,C,R⟩:=hrel;have a7:=vv C;have r:=vv a6;have HS:=vv a2;have a8:=vv R;have D:=f.o.low.trans (R.mono f.o.low.size);have J:=HB.o _ D;clear C a6 a2 R D;have hg:=l.lt;by_cases hjm:j<m
    ·obtain⟨b',d4,e',d5,a0⟩:=J.cell (by omega);have e1:=a0 j hjm;have a9:=J.nth_lt j;clear a0 J;subst e';have ho:=l.cell (i:=k+j) (by rw[r.o];omega);have hf:=l.frozen (k+j);have e2:=l.nth_lt (k+j);have e3:((nth (toL N) k:Nat):Int)*((nth (toL M) j:Nat):Int)<=18446744065119617025:=by have:=q1n a5 a9;omega
     have d6:(0:Int)<=((nth (toL N) k:Nat):Int)*((nth (toL M) j:Nat):Int):=k0W (k0d _) (k0d _);have i1:(j:Int)<(m:Int):=by omega
     have i2:(0:Int)<=(j:Int):=by omega
     have c6:=vv (q1n a5 a9);have S:=vv l;clear l;go_wp2;go_roundw
     case rel =>
      have hd:(nth (toL N) k*nth (toL M) j+nth V (k+j)+y)/4294967296<4294967296:=by have:=c6.o;omega
      refine⟨j+1,(nth (toL N) k*nth (toL M) j+nth V (k+j)+y)/4294967296,V.set (k+j) ((nth (toL N) k*nth (toL M) j+nth V (k+j)+y)%4294967296),by go_num,by omega,k0v _ (by omega),hd,by rw[k07];exact r.o,S.o.set (by rw[r.o];omega) (k0j _ (by omega)) (by omega),fun p hp=>?_,q5y (by rw[r.o];omega) (HS.o _ lr) a7.o,a8.o.setCell lr _⟩;rw[q0m _ _ (by omega)];exact HS.o p (by omega)
     case measure=>simp [intOf];omega
    ·obtain rfl:j=m:=by omega
     have ho:=l.cell (i:=k+j) (by rw[r.o];omega);have hf:=l.frozen (k+j);have S:=vv l;clear l J;go_wp2;go_roundw
     case rel =>exact⟨k+1,V.set (k+j) y,by go_num,by omega,by rw[k07];exact r.o,S.o.set (by rw[r.o];omega) hy rfl,q7c c2.o (by rw[r.o];omega) HV.o a7.o,a8.o.setCell lr _⟩
     case measure=>simp [intOf];omega
  ·obtain rfl:k=n:=by omega
   have b0:=HO.o.rd (n:=k+m) (c:=k+m) Z.o.symm lr (by omega);have b1:val U=N*M:=by have e:=HV.o;rw[q0j (xs:=U) (by rw[Z.o];omega),q0j (xs:=toL N) (by rw[c1.o];exact lr),q04,q04] at e;exact e
   have b2:=vv b1;have c7:=vv b0;clear b1 b0 I P H;go_wp2_with fail;refine(b9.o _ _ _ _ _ c7.o b2.o).mono ?_;rintro e w3 ⟨s,u,rfl,b3,b4,b5⟩;have T:=vv (f.o.step (Q.o.trans (b5.mono Q.o.size)));have b6:=vv b3;rw[b2.o] at b6;have c8:Hid (Fr w.heap.size s):=vv (fun a e=>by have:=b4 a e;cases this;exact⟨f.o.low.size,rfl⟩);have b7:=vv (T.o.get 0 rfl);clear b3 b4 b5;go_wp2_with (with_reducible refine q00 rfl 37 (.tmp 4) (.tmp 98) rfl (w.heap.size+1+1) [.slice s u u] rfl rfl 37 _ b7.o (by kernel_rfl) rfl rfl ?_);intro w9 b8 W;have c9:=vv (q0a T.o.low W T.o.low.size (by omega));have d1:=vv (b6.o.else_ b7.o rfl W);have L:w9.cell? ⟨w.heap.size+1+1,0,qf⟩=qd (.slice s u u):=b8.cell 0;have d2:=vv L;clear b8 W L;go_wp2;have L:=d2.o;exact qh (v:=.tuple #[q0I s u u,.int .i64 0]) (by simp [results,results54,go_sem,L]) rfl ⟨s,u,rfl,d1.o,c8.o,c9.o⟩
theorem q1T{X Y V:List Nat}{j y:Nat}(hj:j<V.length)(h:val (V.take j)+4294967296^j*y=val (X.take j)+val (Y.take j)):val ((V.set j ((nth X j+nth Y j+y)%4294967296)).take (j+1))+4294967296^(j+1)*((nth X j+nth Y j+y)/4294967296)=val (X.take (j+1))+val (Y.take (j+1)):=by
 rw[q08,q08,q08,q0D V j _ j hj,k0n rfl,q38 _ _ _ _ lr,k0a];have a:=k0O (nth X j+nth Y j+y) 4294967296;generalize (nth X j+nth Y j+y)/4294967296=q at *
 generalize (nth X j+nth Y j+y)%4294967296=r at *
 have b:4294967296^j*(4294967296*q+r)=4294967296^j*(nth X j+nth Y j+y):=by rw[a]
 generalize 4294967296^j=P at *
 grind
theorem qcY(sw:Bool)(A:Option qi)(n c N:Nat)(B:Option qi)(m d M:Nat)(w:qa)(ha:Rd w A n c (toL N))(hb:Rd w B m d (toL M))(hn:n<=16384)(hm:m<=16384)
  (h1:m<=n) (h2:sw=true->m<n) (hs:words (N+M)<=16384) :
  qj qe 144 (if sw then #[q0I B m d,q0I A n c] else #[q0I A n c,q0I B m d]) w (NatP (N+M) w):=by
 have HK:Hid (∀g f,qc w.heap.size w f->Blk f g 37 (if sw then[.slice B m d,.slice A n c] else[.slice A n c,.slice B m d])->qj qe 123 #[.slice (qd ⟨g,0,qf⟩) 2 2] f fun e w''=>e=.returned (.int .i64 0)/\qc f.heap.size f w''):=vv fun g f h C=>by
  cases sw
  ·exact q48 A B n m c d N M g f (ha.below h rfl) (hb.below h rfl) hn hm C
  ·exact q48 B A m n d c M N g f (hb.below h rfl) (ha.below h rfl) hm hn C
 have b9:=vv fun D n' c' xs f (hr:Rd f D n' c' xs) (hv:val xs=N+M)=>qcV D n' c' xs f hr (by rw[hv];exact hs)
 have HA:=vv fun f (h:qc w.heap.size w f)=>ha.below h rfl
 have HB:=vv fun f (h:qc w.heap.size w f)=>hb.below h rfl
 have c1:=vv ha.len;have a6:=vv hb.len;have c2:=vv ha.nth_lt;have c3:=vv hb.nth_lt;have d5:=Go.Proofs.YtabcgemembkkcaaGreatDoor.AB.mk1 n (by omega);have t1:decide (n<m)=false:=k00 (by omega);have t2:sw=true->decide (m<n)=true:=fun e=>k03 (h2 e)
 have d6:(n:Int)<=16384:=by omega
 have d7:(m:Int)<=16384:=by omega
 have c4:=vv h1;clear ha hb hs h2 h1;cases sw
 all_goals
  simp only[k2S,k2O,k1o] at HK ⊢;first|(have t2:=t2 rfl)|clear t2
 focus
  obtain⟨l,z⟩:=yx (((w.alloc (.cells #[.slice A n c] 37)).alloc (.cells #[.slice B m d] 37)).alloc (.cells #[.slice qf 0 0] 37));have s:Ctx w [(w.heap.size+1+1,37,[.slice qf 0 0]),(w.heap.size+1,37,[.slice B m d]),(w.heap.size,37,[.slice A n c])] l:=by rw[z];exact(((Ctx.nil w).new _ [_] rfl).new _ [_] (by simp)).new _ [_] (by simp)
  have J:l.heap.size=w.heap.size+1+1+1:=by rw[z];simp
  have HW:=vv z;have S:=vv J;have O:=vv s;have t:=s.get 2 rfl |>.cell 0;have H:=s.get 2 rfl |>.lt;have u:=s.get 1 rfl |>.cell 0;have I:=s.get 1 rfl |>.lt;simp only[List.getElem?_cons_zero] at t u;clear z s J;go_enter func144,ntmps144;go_wp2_with fail;rw[<- HW.o];go_wp2_with fail;have C:Blk (l.alloc (.cells #[.slice A n c,.slice B m d] 37)) (w.heap.size+1+1+1) 37 [.slice A n c,.slice B m d]:=by rw[<- S.o];exact Blk.made l 37 [.slice A n c,.slice B m d]
  have K:qc l.heap.size l (l.alloc (.cells #[.slice A n c,.slice B m d] 37)):=(qb _ _).alloc lr _;have E:=vv (O.o.step K);refine(HK.o _ _ E.o.low C).mono ?_;rintro e F ⟨rfl,P⟩;have r:=vv (E.o.step P);clear P t H u I K C E O;have t:=r.o.get 2 rfl |>.cell 0;have H:=r.o.get 2 rfl |>.lt;have u:=r.o.get 1 rfl |>.cell 0;have I:=r.o.get 1 rfl |>.lt;simp only[List.getElem?_cons_zero] at t u;go_wp2;go_quiet (fail);go_wp2
 rotate_left
 focus
  obtain⟨l,z⟩:=yx (((w.alloc (.cells #[.slice B m d] 37)).alloc (.cells #[.slice A n c] 37)).alloc (.cells #[.slice qf 0 0] 37));have s:Ctx w [(w.heap.size+1+1,37,[.slice qf 0 0]),(w.heap.size+1,37,[.slice A n c]),(w.heap.size,37,[.slice B m d])] l:=by rw[z];exact(((Ctx.nil w).new _ [_] rfl).new _ [_] (by simp)).new _ [_] (by simp)
  have J:l.heap.size=w.heap.size+1+1+1:=by rw[z];simp
  have HW:=vv z;have S:=vv J;have O:=vv s;have t:=s.get 2 rfl |>.cell 0;have H:=s.get 2 rfl |>.lt;have u:=s.get 1 rfl |>.cell 0;have I:=s.get 1 rfl |>.lt;simp only[List.getElem?_cons_zero] at t u;clear z s J;go_enter func144,ntmps144;go_wp2_with fail;rw[<- HW.o];go_wp2_with fail;have C:Blk (l.alloc (.cells #[.slice B m d,.slice A n c] 37)) (w.heap.size+1+1+1) 37 [.slice B m d,.slice A n c]:=by rw[<- S.o];exact Blk.made l 37 [.slice B m d,.slice A n c]
  have K:qc l.heap.size l (l.alloc (.cells #[.slice B m d,.slice A n c] 37)):=(qb _ _).alloc lr _;have E:=vv (O.o.step K);refine(HK.o _ _ E.o.low C).mono ?_;rintro e F ⟨rfl,P⟩;have r:=vv (E.o.step P);clear P t H u I K C E O;have t:=r.o.get 2 rfl |>.cell 0;have H:=r.o.get 2 rfl |>.lt;have u:=r.o.get 1 rfl |>.cell 0;have I:=r.o.get 1 rfl |>.lt;simp only[List.getElem?_cons_zero] at t u;go_wp2;go_quiet (fail);go_wp2
 rotate_left;all_goals
  go_loopw [10,39] (fun q i wr=>∃(j y:Nat) (V:List Nat),i=.int .i64 j/\q=.int .u32 y/\y<=1/\j<=n/\V.length=n+1/\Own wr F.heap.size 54 V/\val (V.take j)+4294967296^j*y=val ((toL N).take j)+val ((toL M).take j)/\qc F.heap.size F wr) (fun _ i _=>n-(intOf i).toNat)
  case atStart=>exact⟨0,0,List.replicate (n+1) 0,rfl,rfl,by omega,k0x _,by simp,Own.made _ _ _,by simp [val],(q0k (qb _ _) _).alloc lr _⟩
  case round =>
   obtain⟨j,y,V,rfl,rfl,hy,hj,c5,L,a2,T⟩:=hrel;have HV:=vv a2;have x:=vv c5;have HO:=vv L;have U:=vv T;have W:=r.o.low.trans (T.mono r.o.low.size);have Z:=HA.o _ W;have Q:=HB.o _ W;have ho:=L.cell (i:=j) (by omega);have hf:=L.frozen j;have d8:=L.lt;clear a2 L T W t H u I;by_cases hjn:j<n
   ·obtain⟨b,off,e,d9,a1⟩:=Z.cell (by omega);have hx:=a1 j hjn;have a7:=c2.o j;clear a1 Z;by_cases hjm:j<m
    ·obtain⟨b',d3,e',d4,a0⟩:=Q.cell (by omega);have e0:=a0 j hjm;have a5:=c3.o j;clear a0 Q;subst e e';have t3:decide (j<m)=true:=k03 hjm;go_wp2_with fail;refine(qbU (nth (toL N) j) (nth (toL M) j) y _ a7 a5 hy).mono ?_;rintro e f ⟨rfl,rfl⟩;go_wp2;go_roundw
     case rel =>exact⟨j+1,(nth (toL N) j+nth (toL M) j+y)/4294967296,V.set j ((nth (toL N) j+nth (toL M) j+y)%4294967296),by go_num,rfl,by omega,by omega,by rw[k07];exact x.o,HO.o.set (by rw[x.o];omega) (k0j _ (by omega)) rfl,q1T (by rw[x.o];omega) HV.o,U.o.setCell lr _⟩
     case measure=>simp [intOf];omega
    ·have E0:nth (toL M) j=0:=q1b _ _ (by rw[a6.o];omega);have c6:=vv E0;clear Q E0;subst e;have t3:decide (j<m)=false:=k00 hjm;go_wp2_with fail;refine(qbU (nth (toL N) j) 0 y _ a7 (by omega) hy).mono ?_;rintro e f ⟨rfl,rfl⟩;go_wp2;go_roundw
     case rel =>refine⟨j+1,(nth (toL N) j+0+y)/4294967296,V.set j ((nth (toL N) j+0+y)%4294967296),by go_num,rfl,by omega,by omega,by rw[k07];exact x.o,HO.o.set (by rw[x.o];omega) (k0j _ (by omega)) rfl,?_,U.o.setCell lr _⟩;have k:=q1T (X:=toL N) (Y:=toL M) (V:=V) (by rw[x.o];omega) HV.o;rw[c6.o] at k;exact k
     case measure=>simp [intOf];omega
   ·obtain rfl:j=n:=by omega
    have a8:val (V.set j y)=N+M:=by have k1:=HV.o;rw[q0j (xs:=toL N) (by rw[c1.o];exact lr),q0j (xs:=toL M) (by rw[a6.o];exact c4.o),q04,q04] at k1;have k2:=q08 (V.set j y) j;rw[q0j (xs:=V.set j y) (by rw[k07,x.o];exact lr),q0D V j y j (by rw[x.o];omega),k0n rfl,q38 _ _ _ _ lr] at k2;omega
    have a9:=vv a8;have b0:Own (wr.setCell ⟨F.heap.size,j,qf⟩ (.int .u32 (y:Int))) F.heap.size 54 (V.set j y):=HO.o.set (by rw[x.o];omega) (by omega) rfl;have b1:=b0.rd (n:=j+1) (c:=j+1) (by rw[k07];exact x.o.symm) lr (by omega);have c7:=vv b1;have b2:=vv (U.o.setCell (p:=⟨F.heap.size,j,qf⟩) lr (.int .u32 (y:Int)));have t3:decide (j<j)=false:=k00 (by omega);clear a8 b0 b1 Z Q;go_wp2_with fail;refine(b9.o _ _ _ _ _ c7.o a9.o).mono ?_;rintro e w3 ⟨D,G,rfl,b3,b4,b5⟩;have a3:=vv (r.o.step (b2.o.trans (b5.mono b2.o.size)));have b6:=vv b3;rw[a9.o] at b6;have c8:Hid (Fr w.heap.size D):=vv (fun a e=>by have:=b4 a e;cases this;exact⟨r.o.low.size,rfl⟩);have b7:=vv (a3.o.get 0 rfl);clear b3 b4 b5;go_wp2_with (with_reducible refine q00 rfl 37 (.tmp 4) (.tmp 70) rfl (w.heap.size+1+1) [.slice D G G] rfl rfl 37 _ b7.o (by kernel_rfl) rfl rfl ?_);intro w9 b8 a4;have c9:=vv (q0a a3.o.low a4 a3.o.low.size (by omega));have d1:=vv (b6.o.else_ b7.o rfl a4);have R:w9.cell? ⟨w.heap.size+1+1,0,qf⟩=qd (.slice D G G):=b8.cell 0;have d2:=vv R;clear b8 a4 R;go_wp2;have R:=d2.o;exact qh (v:=.tuple #[q0I D G G,.int .i64 0]) (by simp [results,results144,go_sem,R]) rfl ⟨D,G,rfl,d1.o,c8.o,c9.o⟩
theorem Add(A:Option qi)(n c N:Nat)(B:Option qi)(m d M:Nat)(w:qa)(ha:Rd w A n c (toL N))(hb:Rd w B m d (toL M))(hn:n<=16384)(hm:m<=16384)(hs:words (N+M)<=16384):qj qe 144 #[q0I A n c,q0I B m d] w (NatP (N+M) w):=by
 rcases k0y n m with h|h
 ·have:=qcY true B m d M A n c N w hb ha hm hn (k16 h) (fun _=>h) (by rw[k11];exact hs);rw[k11 M N] at this;exact this
 ·exact qcY false A n c N B m d M w ha hb hn hm h (fun e=>by cases e) hs
end Pnt
namespace Hx
open Go Go.RowKit R5 Scn Fms Exa
theorem bias_nat{E:Nat}:q12 E=((2^(E-1):Nat):Int)-1:=by
 unfold q12;have a:((2^(E-1):Nat):Int)=(2:Int)^(E-1):=by rw[k0D];rfl
 rw[a]
theorem odd_split{M:Nat}(h:0<M):M=oddN M*2^tz M:=by unfold oddN;rw[k0o (by omega)];obtain⟨m,a⟩:=q2i h;have e:M/2^tz M=2*m+1:=Nat.div_eq_of_eq_mul_right (k0c _) a;rw[e,k0b];exact a
end Hx
namespace Scn
open Go
abbrev bo(l:List UInt8):ByteArray:=⟨l.toArray⟩
def qdz(c:UInt8):Nat:=(qcT c.toNat).getD 0
def qdA(c:UInt8):Nat:=c.toNat-48
def qdT(N q:Nat):List UInt8:=(Hx.hexL N (q+1)).take 1++(if 1<(Hx.hexL N (q+1)).length then 46::(Hx.hexL N (q+1)).drop 1 else[])
end Scn
namespace Hx
open Go Go.RowKit R5 Scn Fms Exa
def low(c:Nat):Nat:=if 65<=c/\c<=90 then c+32 else c
def fig(set s:ByteArray)(i:Nat):Int:=if i<s.size then Lib.indexByte set.data.toList (low (s.data.toList.getD i 0).toNat).toUInt8 else -1
end Hx
end Go.Proofs.YtabcgemembkkcaaGreatDoor
