/- Lemmas. -/
import Derived.Test.YtabcgemembkkcaaGreatDoorDigsBL
import Derived.Test.YtabcgemembkkcaaGreatDoorDigsBJ
import Derived.Test.YtabcgemembkkcaaGreatDoorDigsBD
set_option linter.all false
set_option maxHeartbeats 4000000
set_option maxRecDepth 100000
open Go.Proofs.Tryz
open Go renaming World->qa,RowKit.Below.refl->qb,wpList_append_own->qi,Addr->qj,Calls->qk,Value->ql,bodyPost_ret->qm,cell_one_new->qn
open Go.RowKit renaming Below->qc
open Go.Proofs.Tryz renaming prog->qd
open Decidable renaming decide->qe
open Option renaming none->qf,some->qg
open Bool renaming false->qh,true->qo
namespace Go.Proofs.YtabcgemembkkcaaGreatDoor
variable{w w1 w2 w':qa}{g n c k N j y s q:Nat}{t:TypeId}{cs old:List ql}{A:Option qj}{xs X:List Nat}
namespace Hx
open Go Go.RowKit R5 Scn Fms Exa
def RdP(bits flags:Nat)(w:qa)(e:Ending)(w':qa):Prop:=
 e=.returned (.tuple #[.int .u64 (bits:Int),.int .u8 (flags:Int),.nilIface])/\qc w.heap.size w w'
end Hx
section
open Go Go.RowKit Scn Hx
abbrev q30:=Nat × TypeId × List ql
structure Ctx(w:qa)(bs:List q30)(w':qa):Prop where
 low:qc w.heap.size w w'
 all:∀x∈bs,Blk w' x.1 x.2.1 x.2.2
theorem Ctx.nil(w:qa):Ctx w [] w:=⟨qb _ _,fun _ h=>by cases h⟩
theorem Ctx.step{bs:List q30}(h:Ctx w bs w1)(hb:qc w1.heap.size w1 w2):Ctx w bs w2:=⟨h.low.trans (hb.mono h.low.size),fun x hx=>(h.all x hx).below hb⟩
theorem Ctx.drew{bs:List q30}(h:Ctx w bs w1):Ctx w bs w1.drew:=h.step (q05 (qb _ _))
theorem Ctx.undrew{bs:List q30}(h:Ctx w bs w1)(hb:qc w1.heap.size w1.drew w2):Ctx w bs w2:=h.step ⟨hb.os,hb.tape,hb.output,hb.size,hb.block⟩
theorem Ctx.new{bs:List q30}(h:Ctx w bs w1)(t:TypeId)(cs:List ql)(hg:g=w1.heap.size):Ctx w ((g,t,cs)::bs) (w1.alloc (.cells cs.toArray t)):=by
 subst hg;refine⟨h.low.trans (((qb w1.heap.size w1).alloc lr _).mono h.low.size),fun x hx=>?_⟩;rcases k0R.1 hx with rfl|hx
 ·exact Blk.made _ _ _
 ·exact(h.all x hx).alloc _
theorem Ctx.get{bs:List q30}(h:Ctx w bs w')(i:Nat)(hi:bs[i]?=qg (g,t,cs)):Blk w' g t cs:=h.all (g,t,cs) (k1O hi)
theorem Ctx.put{bs:List q30}(h:Ctx w bs w1)(i:Nat)(hi:bs[i]?=qg (g,t,old))(hne:∀j x,j≠i->bs[j]?=qg x->x.1≠g)(hw:w.heap.size<=g)
  (hb:Blk w2 g t cs) (hg:w1.grownBy w2 (qg g)):Ctx w (bs.set i (g,t,cs)) w2:=by
 refine⟨q0a h.low hg h.low.size hw,fun x hx=>?_⟩;obtain⟨j,a⟩:=List.getElem?_of_mem hx;by_cases e:j=i
 ·subst e;rw[List.getElem?_set_self' ] at a;rw[hi] at a;cases a;exact hb
 ·rw[List.getElem?_set_ne (fun k=>e k.symm)] at a;exact(h.all x (k1O a)).grown hg (fun k=>hne j x e a (k27 k).symm)
theorem Ctx.write{bs:List q30}(h:Ctx w bs w1)(hg:w1.grownBy w2 (qg g))(hw:w.heap.size<=g)(hne:∀x∈bs,x.1≠g):Ctx w bs w2:=⟨q0a h.low hg h.low.size hw,fun x hx=>(h.all x hx).grown hg (fun k=>hne x hx (k27 k).symm)⟩
theorem Ctx.row{bs:List q30}(h:Ctx w bs w1){row:Option Nat}(hg:w1.grownBy w2 row)(hw:∀b,row=qg b->w.heap.size<=b/\∀x∈bs,x.1≠b):Ctx w bs w2:=by refine⟨⟨hg.os.trans h.low.os,hg.tape.trans h.low.tape,hg.output.trans h.low.output,k07 h.low.size hg.size,fun i hi=>?_⟩,fun x hx=>(h.all x hx).grown hg (fun k=>(hw _ k).2 x hx rfl)⟩;exact(hg.block i (k03 hi h.low.size) (fun k=>by have:=(hw _ k.symm).1;omega)).trans (h.low.block i hi)
theorem Ctx.fs{bs:List q30}{l:List Ob}(h:Ctx w bs w1)(hf:Fs l w1 w2)(hw:∀p∈l,w.heap.size<=p.1)(hne:∀x∈bs,∀p∈l,p.1≠x.1):Ctx w bs w2:=⟨hf.below h.low h.low.size hw,fun x hx=>(hf.block x.1 (h.all x hx).lt (hne x hx)).trans (h.all x hx)⟩
theorem Rd.else_(h:Rd w A n c xs)(hb:Blk w g t cs)(hcs:cs.all (fun v=>match v with|.int _ _=>qh|_=>qo)=qo)(hg:w.grownBy w' (qg g)):Rd w' A n c xs:=⟨h.len,h.le,h.sm,h.lim,fun hn=>by
  obtain⟨b,off,e,hlt,hc⟩:=h.cell hn;have hne:b≠g:=by rintro rfl;have a:=hc 0 hn;rw[hb.cell] at a;have:=k29.1 hcs _ (k1O a);simp at this
  exact⟨b,off,e,k03 hlt hg.size,fun j hj=>(q1o hg (p:=⟨b,off+j,qf⟩) hlt hne).trans (hc j hj)⟩⟩
theorem Ctx.rd{bs:List q30}(h:Ctx w bs w')(hr:Rd w A n c xs):Rd w' A n c xs:=hr.below h.low rfl
theorem Ctx.std{bs:List q30}(h:Ctx w bs w')(hs:Std w):Std w':=hs.below h.low
structure Cx(w:qa)(bs:List q30)(w':qa):Prop extends Ctx w bs w' where
 pw:(bs.map (·.1)).Pairwise (fun x y=>y<x)
 ge:∀x∈bs,w.heap.size<=x.1
theorem Cx.nil(w:qa):Cx w [] w:=⟨Ctx.nil w,.nil,fun _ h=>by cases h⟩
theorem Cx.start{w0:qa}(h:qc w.heap.size w w0):Cx w [] w0:=⟨⟨h,fun _ h=>by cases h⟩,.nil,fun _ h=>by cases h⟩
theorem Cx.step{bs:List q30}(h:Cx w bs w1)(hb:qc w1.heap.size w1 w2):Cx w bs w2:=⟨h.toCtx.step hb,h.pw,h.ge⟩
theorem Cx.new{bs:List q30}(h:Cx w bs w1)(t:TypeId)(cs:List ql)(hg:g=w1.heap.size):Cx w ((g,t,cs)::bs) (w1.alloc (.cells cs.toArray t)):=by
 refine⟨h.toCtx.new t cs hg,?_,fun x hx=>?_⟩
 ·rw[List.map_cons];refine List.Pairwise.cons (fun y hy=>?_) h.pw;obtain⟨x,hx,rfl⟩:=k3g.1 hy;show x.1<g;rw[hg];exact(h.all x hx).lt
 ·rcases k0R.1 hx with rfl|hx
  ·show _<=g;rw[hg];exact h.low.size
  ·exact h.ge x hx
theorem qcc{l:List Nat}(h:l.Pairwise (fun x y=>y<x)):∀{i j a b:Nat},i≠j->l[i]?=qg a->l[j]?=qg b->a≠b:=by
 induction h with
 | nil=>intro i j a b _ h;cases h
 | @cons x l hx _ ih =>
  intro i j a b f c d
  match i,j with
  | 0,0=>exact absurd rfl f
  | 0,j+1 =>have:=hx b (k1O d);cases c;omega
  | i+1,0 =>have:=hx a (k1O c);cases d;omega
  | i+1,j+1=>exact ih (fun e=>f (by rw[e])) c d
theorem Cx.put{bs:List q30}(h:Cx w bs w1)(i:Nat)(hi:bs[i]?=qg (g,t,old))(hb:Blk w2 g t cs)(hg:w1.grownBy w2 (qg g)):Cx w (bs.set i (g,t,cs)) w2:=by
 have a:(bs.map (·.1))[i]?=qg g:=by rw[k1S,hi];rfl
 have b:(bs.set i (g,t,cs)).map (·.1)=bs.map (·.1):=by
  rw[List.map_set];refine List.ext_getElem? fun k=>?_
  by_cases e:i=k
  ·subst e;rw[List.getElem?_set_self' ,a];rfl
  ·rw[List.getElem?_set_ne e]
 refine⟨h.toCtx.put i hi (fun j x hj hx=>?_) (h.ge _ (k1O hi)) hb hg,by rw[b];exact h.pw,fun x hx=>?_⟩
 ·have c:(bs.map (·.1))[j]?=qg x.1:=by rw[k1S,hx];rfl
  exact qcc h.pw hj c a
 ·have d:x.1∈bs.map (·.1):=by rw[<- b];exact List.mem_map_of_mem hx
  obtain⟨y,f,e⟩:=k3g.1 d;rw[<- e];exact h.ge y f
theorem Cx.fs{bs:List q30}{o:Nat}(h:Cx w bs w1)(hf:Fs [(g,o,k)] w1 w2)(hw:∀x∈bs,x.1<g)(hwg:w.heap.size<=g):Cx w bs w2:=⟨h.toCtx.fs hf (by intro p hp;rw[k09.1 hp];exact hwg) (by intro x hx p hp;rw[k09.1 hp];have:=hw x hx;show g≠x.1;omega),h.pw,h.ge⟩
theorem Cx.lt{bs:List q30}(h:Cx w bs w1):∀x∈bs,x.1<w1.heap.size:=fun x hx=>(h.all x hx).lt
theorem Cx.drew{bs:List q30}(h:Cx w bs w1):Cx w bs w1.drew:=h.step (q05 (qb _ _))
theorem Cx.undrew{bs:List q30}(h:Cx w bs w1)(hb:qc w1.heap.size w1.drew w2):Cx w bs w2:=h.step ⟨hb.os,hb.tape,hb.output,hb.size,hb.block⟩
theorem q0b{P:Program}{o:Oper}{a:Act}{K:Act->qa->Prop}{Q:Exit->Act->qa->Prop}(ty:TypeId)(x y:Operand)(ho:o.op=.store ty x y)
  (g:Nat) (cells:List ql) (hx:a.eval x=.pointer (qg ⟨g,0,qf⟩)) (hy:a.eval y=.agg cells.toArray)
  (t:TypeId) (old:List ql) (hg:Blk w g t old) (hi:(P.info? ty).map (·.size)=qg cells.length)
  (hold:old.length=cells.length) (h1:cells.all (·.oneCell')=qo)
  (h:∀w',Blk w' g t cells->w.grownBy w' (qg g)->K (a.put o.dst undef) w'):o.wp P a w K Q:=by
 refine wp_store_row ty x y ho g cells.toArray hx hy t old.toArray hg (by simpa using hi) (by simpa using hold) (by simpa using h1) (h _ (setRow_heap w g _ _ t _ hg) ⟨rfl,rfl,rfl,by simp [World.setRow],fun i hi b=>?_⟩);unfold World.setRow;rw[k2t,k0r (fun e=>b (by rw[e]))]
theorem Rd.apart_(h:Rd w A n c xs)(hb:Blk w g t cs)(hcs:cs.all (fun v=>match v with|.int .u32 _=>qh|_=>qo)=qo)(hg:w.grownBy w' (qg g)):Rd w' A n c xs:=⟨h.len,h.le,h.sm,h.lim,fun hn=>by
  obtain⟨b,off,e,hlt,hc⟩:=h.cell hn;have hne:b≠g:=by rintro rfl;have a:=hc 0 hn;rw[hb.cell] at a;have:=k29.1 hcs _ (k1O a);simp at this
  exact⟨b,off,e,k03 hlt hg.size,fun j hj=>(q1o hg (p:=⟨b,off+j,qf⟩) hlt hne).trans (hc j hj)⟩⟩
structure RN(w:qa)(A:Option qj)(n c N:Nat):Prop where
 r:Rd w A n c (toL N)
theorem RN.below(h:RN w A n c N)(hb:qc w.heap.size w w'):RN w' A n c N:=⟨h.r.below hb rfl⟩
theorem RN.apart_(h:RN w A n c N)(hb:Blk w g t cs)(hcs:cs.all (fun v=>match v with|.int .u32 _=>qh|_=>qo)=qo)(hg:w.grownBy w' (qg g)):RN w' A n c N:=⟨h.r.apart_ hb hcs hg⟩
end
namespace Pnt
open Go Go.RowKit R5
theorem qcR(x y z:Nat)(w:qa)(hx:x<4294967296)(hy:y<4294967296)(hz:z<=1):qk qd 232 #[.int .u32 (x:Int),.int .u32 (y:Int),.int .u32 (z:Int)] w fun e w'=>e=.returned (.tuple #[.int .u32 (((x+y+z)%4294967296:Nat):Int),.int .u32 (((x+y+z)/4294967296:Nat):Int)])/\w=w':=by go_enter func232,ntmps232;go_wp2;go_ret2;refine⟨?_,rfl⟩;congr 3
theorem qdF(r x d:Nat)(w:qa)(hr:r<d)(hx:x<4294967296)(hd:d<4294967296):qk qd 342 #[.int .u32 (r:Int),.int .u32 (x:Int),.int .u32 (d:Int)] w fun e w'=>e=.returned (.tuple #[.int .u32 (((r*4294967296+x)/d:Nat):Int),.int .u32 (((r*4294967296+x)%d:Nat):Int)])/\qc w.heap.size w w':=by
 have b:((d:Int)==0)=qh:=by rw[k05];omega
 have c:qe ((d:Int)<=(r:Int))=qh:=k02 (by omega);have h:(r*4294967296+x)/d<4294967296:=k0s (by have:(r+1)*4294967296<=d*4294967296:=k0y _ hr;omega);have a:Hid (((x:Int)+4294967296*(r:Int))/(d:Int)%4294967296=(((r*4294967296+x)/d:Nat):Int)/\((x:Int)+4294967296*(r:Int))%(d:Int)%4294967296=(((r*4294967296+x)%d:Nat):Int)):=vv (by
  have e:(x:Int)+4294967296*(r:Int)=((r*4294967296+x:Nat):Int):=by omega
  have i:(r*4294967296+x)%d<d:=k0i _ (by omega);rw[e,<- k1n,<- k1x];generalize (r*4294967296+x)/d=Q at *
  generalize (r*4294967296+x)%d=R at *
  exact⟨by omega,by omega⟩)
 have f:=qa0 x r hx (by omega);have g:(r:Int)<=4294967294:=by omega
 go_enter func342,ntmps342;go_wp2;go_quiet (fail);go_wp2;go_ret2;refine⟨?_,q0n (qb _ _) _⟩;show Ending.returned (.tuple #[.int .u32 (((x:Int)+4294967296*(r:Int))/(d:Int)%4294967296),.int .u32 (((x:Int)+4294967296*(r:Int))%(d:Int)%4294967296)])=_;rw[a.o.1,a.o.2]
theorem qcC(A:Option qj)(n c:Nat)(xs:List Nat)(w:qa)(hr:Rd w A n c xs)(h:words (val xs)<=16384):qk qd 124 #[.slice A n c] w fun e w'=>∃A' m,e=.returned (.tuple #[q0x A' m m,.int .i64 0])/\Rd w' A' m m (toL (val xs))/\(∀a,A'=qg a->A=qg a)/\qc w.heap.size w w':=by
 obtain⟨t,i⟩:=yx (w.alloc (.cells #[.slice qf 0 0] 37));have j:Ctx w [(w.heap.size,37,[.slice qf 0 0])] t:=by rw[i];exact(Ctx.nil w).new _ [_] rfl
 have I:=vv (Nat_.trimmed A n c xs t (j.rd hr));have J:=vv i;have K:=vv j;have L:=vv h;have Q:Hid (∀a,A=qg a->0<n->a.block<w.heap.size):=vv fun a e hn=>by obtain⟨b,off,u,M,-⟩:=hr.cell hn;rw[e] at u;cases u;exact M
 clear i j hr h;go_enter func124,ntmps124;go_wp2_with fail;rw[<- J.o];refine I.o.mono ?_;rintro e x ⟨A',m,rfl,k,y,z⟩;have R:m<=16384:=by rw[<- k.words];exact L.o
 have d:=vv (K.o.step z);have D:=vv k;have E:=vv y;have C:=d.o.get 0 rfl |>.cell 0;have N:=d.o.get 0 rfl |>.lt;have S:=d.o.get 0 rfl |>.fz 0;simp only[k06] at C;obtain⟨l,f⟩:=yx ((x.setCell ⟨w.heap.size,0,qf⟩ (.slice A' m m)).alloc (.cells #[.slice A' m m] 37));have q:Rd l A' m m (toL (val xs)):=by rw[f];have g:=D.o.else_ (w':=x.setCell ⟨w.heap.size,0,qf⟩ (.slice A' m m)) (d.o.get 0 rfl) rfl (Go.Proofs.YtabcgemembkkcaaGreatDoor.only_setCell (World.grownBy.refl _ _) (.inl rfl) _);exact g.below ((qb _ _).alloc lr _) rfl
 have r:qc w.heap.size w l:=by rw[f];have g:=d.o.low.setCell (p:=⟨w.heap.size,0,qf⟩) lr (.slice A' m m);exact g.alloc g.size _
 have s:l.cell? ⟨w.heap.size,0,qf⟩=qg (.slice A' m m):=by rw[f];exact(((qb _ _).alloc lr _).cell (p:=⟨w.heap.size,0,qf⟩) (by simp [World.setCell];exact N)).trans (q0v C)
 have F:=vv q;have G:=vv r;have O:=vv s;have H:=vv f;clear z k y f q r s;go_wp2;rw[<- H.o];have P:=O.o;exact qm (v:=.tuple #[q0x A' m m,.int .i64 0]) (by simp [results,results124,go_sem,P]) rfl ⟨A',m,rfl,F.o,E.o,G.o⟩
end Pnt
namespace Pnt
open Go Go.RowKit R5 Scn
theorem Mul(A:Option qj)(n c N:Nat)(B:Option qj)(m d M:Nat)(w:qa)(ha:Rd w A n c (toL N))(hb:Rd w B m d (toL M))(hn:n<=16384)(hm:m<=16384)(hnm:n+m<=16385)(hs:words (N*M)<=16384):qk qd 54 #[q0x A n c,q0x B m d] w (NatP (N*M) w):=by
 have HK:=vv fun g w' (h:qc w.heap.size w w') (K:Blk w' g 37 [.slice A n c,.slice B m d])=>q4v A B n m c d N M g w' (ha.below h rfl) (hb.below h rfl) hn hm K
 have b9:=vv fun s n' c' xs w' (hr:Rd w' s n' c' xs) (hv:val xs=N*M)=>qcC s n' c' xs w' hr (by rw[hv];exact hs)
 have HA:=vv fun w' (h:qc w.heap.size w w')=>ha.below h rfl
 have HB:=vv fun w' (h:qc w.heap.size w w')=>hb.below h rfl
 have c1:=vv ha.len;have c2:=vv hb.len;have c3:=Go.Proofs.YtabcgemembkkcaaGreatDoor.AB.mk (n+m) (by omega);rw[show((n+m:Nat):Int)=(n:Int)+(m:Int) by omega] at c3;have d7:(n:Int)<=16384:=by omega
 have d8:(m:Int)<=16384:=by omega
 have d3:(n:Int)+(m:Int)<=16385:=by omega
 obtain⟨t,G⟩:=yx (((w.alloc (.cells #[.slice A n c] 37)).alloc (.cells #[.slice B m d] 37)).alloc (.cells #[.slice qf 0 0] 37));have x:Ctx w [(w.heap.size+1+1,37,[.slice qf 0 0]),(w.heap.size+1,37,[.slice B m d]),(w.heap.size,37,[.slice A n c])] t:=by rw[G];exact(((Ctx.nil w).new _ [_] rfl).new _ [_] (by simp)).new _ [_] (by simp)
 have a3:t.heap.size=w.heap.size+1+1+1:=by rw[G];simp
 have HW:=vv G;have c4:=vv a3;have HC:=vv x;have E:=x.get 2 rfl |>.cell 0;have X:=x.get 2 rfl |>.lt;have F:=x.get 1 rfl |>.cell 0;have Y:=x.get 1 rfl |>.lt;simp only[k06] at E F;clear G x a3 ha hb hs;go_enter func54,ntmps54;go_wp2_with fail;rw[<- HW.o];go_wp2_with fail;have K:Blk (t.alloc (.cells #[.slice A n c,.slice B m d] 37)) (w.heap.size+1+1+1) 37 [.slice A n c,.slice B m d]:=by rw[<- c4.o];exact Blk.made t 37 [.slice A n c,.slice B m d]
 have a4:qc t.heap.size t (t.alloc (.cells #[.slice A n c,.slice B m d] 37)):=(qb _ _).alloc lr _;have O:=vv (HC.o.step a4);refine(HK.o _ _ O.o.low K).mono ?_;rintro e z ⟨rfl,hB⟩;have f:=vv (O.o.step hB);clear hB E X F Y a4 K O HC;have E:=f.o.get 2 rfl |>.cell 0;have X:=f.o.get 2 rfl |>.lt;have F:=f.o.get 1 rfl |>.cell 0;have Y:=f.o.get 1 rfl |>.lt;simp only[k06] at E F;go_wp2;go_quiet (fail);go_wp2;go_loopw [43] (fun i wr=>∃(k:Nat) (U:List Nat),i=.int .i64 k/\k<=n/\U.length=n+m/\Own wr z.heap.size 54 U/\val (U.take (k+m))=val ((toL N).take k)*val (toL M)/\qc z.heap.size z wr) (fun i _=>n-(intOf i).toNat)
 case atStart=>exact⟨0,List.replicate (n+m) 0,rfl,k0x _,by simp,Own.made _ _ _,by simp [val,k2k,q0d],(q0n (qb _ _) _).alloc lr _⟩
 case round =>
  obtain⟨k,U,rfl,hk,c5,P,C,H⟩:=hrel;have HV:=vv C;have Z:=vv c5;have Q:=vv H;have HO:=vv P;have D:=f.o.low.trans (H.mono f.o.low.size);have I:=HA.o _ D;clear C D E X F Y;by_cases hkn:k<n
  ·obtain⟨b,off,e,d9,a1⟩:=I.cell (by omega);have hx:=a1 k hkn;have a5:=I.nth_lt k;clear a1 I P H;subst e;have e0:(k:Int)<=16384:=by omega
   have s1:(k:Int)+(m:Int)+1<=(n:Int)+(m:Int):=by omega
   go_wp2;go_loopw [12,63] (fun q i wx=>∃(j y:Nat) (V:List Nat),i=.int .i64 j/\j<=m/\q=.int .u64 y/\y<4294967296/\V.length=n+m/\Own wx z.heap.size 54 V /\(∀p,k+j<=p->nth V p=nth U p)/\val (V.take (k+j))+4294967296^(k+j)*y=val (U.take (k+j))+4294967296^k*(nth (toL N) k*val ((toL M).take j))/\qc z.heap.size z wx) (fun _ i _=>m-(intOf i).toNat)
   case atStart=>exact⟨0,0,U,rfl,k0x _,rfl,by omega,Z.o,HO.o,fun _ _=>rfl,by simp [val],Q.o⟩
   case round =>
    clear hx;obtain⟨j,y,V,rfl,hj,rfl,hy,a6,l,a2,C,R⟩:=hrel;have a7:=vv C;have r:=vv a6;have HS:=vv a2;have a8:=vv R;have D:=f.o.low.trans (R.mono f.o.low.size);have J:=HB.o _ D;clear C a6 a2 R D;have hg:=l.lt;by_cases hjm:j<m
    ·obtain⟨b',d4,e',d5,a0⟩:=J.cell (by omega);have e1:=a0 j hjm;have a9:=J.nth_lt j;clear a0 J;subst e';have ho:=l.cell (i:=k+j) (by rw[r.o];omega);have hf:=l.frozen (k+j);have e2:=l.nth_lt (k+j);have e3:((nth (toL N) k:Nat):Int)*((nth (toL M) j:Nat):Int)<=18446744065119617025:=by have:=q1i a5 a9;omega
     have d6:(0:Int)<=((nth (toL N) k:Nat):Int)*((nth (toL M) j:Nat):Int):=k18 (k0k _) (k0k _);have i1:(j:Int)<(m:Int):=by omega
     have i2:(0:Int)<=(j:Int):=by omega
     have c6:=vv (q1i a5 a9);have S:=vv l;clear l;go_wp2;go_roundw
     case rel =>
      have hd:(nth (toL N) k*nth (toL M) j+nth V (k+j)+y)/4294967296<4294967296:=by have:=c6.o;omega
      refine⟨j+1,(nth (toL N) k*nth (toL M) j+nth V (k+j)+y)/4294967296,V.set (k+j) ((nth (toL N) k*nth (toL M) j+nth V (k+j)+y)%4294967296),by go_num,by omega,k0z _ (by omega),hd,by rw[k0c];exact r.o,S.o.set (by rw[r.o];omega) (k0i _ (by omega)) (by omega),fun p hp=>?_,q4m (by rw[r.o];omega) (HS.o _ lr) a7.o,a8.o.setCell lr _⟩;rw[q0i _ _ (by omega)];exact HS.o p (by omega)
     case measure=>simp [intOf];omega
    ·obtain rfl:j=m:=by omega
     have ho:=l.cell (i:=k+j) (by rw[r.o];omega);have hf:=l.frozen (k+j);have S:=vv l;clear l J;go_wp2;go_roundw
     case rel =>exact⟨k+1,V.set (k+j) y,by go_num,by omega,by rw[k0c];exact r.o,S.o.set (by rw[r.o];omega) hy rfl,q5r c2.o (by rw[r.o];omega) HV.o a7.o,a8.o.setCell lr _⟩
     case measure=>simp [intOf];omega
  ·obtain rfl:k=n:=by omega
   have b0:=HO.o.rd (n:=k+m) (c:=k+m) Z.o.symm lr (by omega);have b1:val U=N*M:=by have e:=HV.o;rw[q0f (xs:=U) (by rw[Z.o];omega),q0f (xs:=toL N) (by rw[c1.o];exact lr),q04,q04] at e;exact e
   have b2:=vv b1;have c7:=vv b0;clear b1 b0 I P H;go_wp2_with fail;refine(b9.o _ _ _ _ _ c7.o b2.o).mono ?_;rintro e w3 ⟨s,u,rfl,b3,b4,b5⟩;have T:=vv (f.o.step (Q.o.trans (b5.mono Q.o.size)));have b6:=vv b3;rw[b2.o] at b6;have c8:Hid (Fr w.heap.size s):=vv (fun a e=>by have:=b4 a e;cases this;exact⟨f.o.low.size,rfl⟩);have b7:=vv (T.o.get 0 rfl);clear b3 b4 b5;go_wp2_with (with_reducible refine q00 rfl 37 (.tmp 4) (.tmp 98) rfl (w.heap.size+1+1) [.slice s u u] rfl rfl 37 _ b7.o (by kernel_rfl) rfl rfl ?_);intro w9 b8 W;have c9:=vv (q0a T.o.low W T.o.low.size (by omega));have d1:=vv (b6.o.else_ b7.o rfl W);have L:w9.cell? ⟨w.heap.size+1+1,0,qf⟩=qg (.slice s u u):=b8.cell 0;have d2:=vv L;clear b8 W L;go_wp2;have L:=d2.o;exact qm (v:=.tuple #[q0x s u u,.int .i64 0]) (by simp [results,results54,go_sem,L]) rfl ⟨s,u,rfl,d1.o,c8.o,c9.o⟩
theorem q1Z{Y V:List Nat}(hj:j<V.length)(h:val (V.take j)+4294967296^j*y=val (X.take j)+val (Y.take j)):val ((V.set j ((nth X j+nth Y j+y)%4294967296)).take (j+1))+4294967296^(j+1)*((nth X j+nth Y j+y)/4294967296)=val (X.take (j+1))+val (Y.take (j+1)):=by
 rw[q07,q07,q07,q0H V j _ j hj,k0p rfl,q3g _ _ _ _ lr,k0d];have a:=k0F (nth X j+nth Y j+y) 4294967296;generalize (nth X j+nth Y j+y)/4294967296=q at *
 generalize (nth X j+nth Y j+y)%4294967296=r at *
 have b:4294967296^j*(4294967296*q+r)=4294967296^j*(nth X j+nth Y j+y):=by rw[a]
 generalize 4294967296^j=P at *
 grind
theorem qe7(sw:Bool)(A:Option qj)(n c N:Nat)(B:Option qj)(m d M:Nat)(w:qa)(ha:Rd w A n c (toL N))(hb:Rd w B m d (toL M))(hn:n<=16384)(hm:m<=16384)
  (h1:m<=n) (h2:sw=qo->m<n) (hs:words (N+M)<=16384) :
  qk qd 144 (if sw then #[q0x B m d,q0x A n c] else #[q0x A n c,q0x B m d]) w (NatP (N+M) w):=by
 have HK:Hid (∀g f,qc w.heap.size w f->Blk f g 37 (if sw then[.slice B m d,.slice A n c] else[.slice A n c,.slice B m d])->qk qd 123 #[.slice (qg ⟨g,0,qf⟩) 2 2] f fun e w''=>e=.returned (.int .i64 0)/\qc f.heap.size f w''):=vv fun g f h C=>by
  cases sw
  ·exact q4v A B n m c d N M g f (ha.below h rfl) (hb.below h rfl) hn hm C
  ·exact q4v B A m n d c M N g f (hb.below h rfl) (ha.below h rfl) hm hn C
 have b9:=vv fun D n' c' xs f (hr:Rd f D n' c' xs) (hv:val xs=N+M)=>qcC D n' c' xs f hr (by rw[hv];exact hs)
 have HA:=vv fun f (h:qc w.heap.size w f)=>ha.below h rfl
 have HB:=vv fun f (h:qc w.heap.size w f)=>hb.below h rfl
 have c1:=vv ha.len;have a6:=vv hb.len;have c2:=vv ha.nth_lt;have c3:=vv hb.nth_lt;have d5:=Go.Proofs.YtabcgemembkkcaaGreatDoor.AB.mk1 n (by omega);have t1:qe (n<m)=qh:=k02 (by omega);have t2:sw=qo->qe (m<n)=qo:=fun e=>k04 (h2 e)
 have d6:(n:Int)<=16384:=by omega
 have d7:(m:Int)<=16384:=by omega
 have c4:=vv h1;clear ha hb hs h2 h1;cases sw
 all_goals
  simp only[k3e,k39,k1B] at HK ⊢;first|(have t2:=t2 rfl)|clear t2
 focus
  obtain⟨l,z⟩:=yx (((w.alloc (.cells #[.slice A n c] 37)).alloc (.cells #[.slice B m d] 37)).alloc (.cells #[.slice qf 0 0] 37));have s:Ctx w [(w.heap.size+1+1,37,[.slice qf 0 0]),(w.heap.size+1,37,[.slice B m d]),(w.heap.size,37,[.slice A n c])] l:=by rw[z];exact(((Ctx.nil w).new _ [_] rfl).new _ [_] (by simp)).new _ [_] (by simp)
  have J:l.heap.size=w.heap.size+1+1+1:=by rw[z];simp
  have HW:=vv z;have S:=vv J;have O:=vv s;have t:=s.get 2 rfl |>.cell 0;have H:=s.get 2 rfl |>.lt;have u:=s.get 1 rfl |>.cell 0;have I:=s.get 1 rfl |>.lt;simp only[k06] at t u;clear z s J;go_enter func144,ntmps144;go_wp2_with fail;rw[<- HW.o];go_wp2_with fail;have C:Blk (l.alloc (.cells #[.slice A n c,.slice B m d] 37)) (w.heap.size+1+1+1) 37 [.slice A n c,.slice B m d]:=by rw[<- S.o];exact Blk.made l 37 [.slice A n c,.slice B m d]
  have K:qc l.heap.size l (l.alloc (.cells #[.slice A n c,.slice B m d] 37)):=(qb _ _).alloc lr _;have E:=vv (O.o.step K);refine(HK.o _ _ E.o.low C).mono ?_;rintro e F ⟨rfl,P⟩;have r:=vv (E.o.step P);clear P t H u I K C E O;have t:=r.o.get 2 rfl |>.cell 0;have H:=r.o.get 2 rfl |>.lt;have u:=r.o.get 1 rfl |>.cell 0;have I:=r.o.get 1 rfl |>.lt;simp only[k06] at t u;go_wp2;go_quiet (fail);go_wp2
 rotate_left
 focus
  obtain⟨l,z⟩:=yx (((w.alloc (.cells #[.slice B m d] 37)).alloc (.cells #[.slice A n c] 37)).alloc (.cells #[.slice qf 0 0] 37));have s:Ctx w [(w.heap.size+1+1,37,[.slice qf 0 0]),(w.heap.size+1,37,[.slice A n c]),(w.heap.size,37,[.slice B m d])] l:=by rw[z];exact(((Ctx.nil w).new _ [_] rfl).new _ [_] (by simp)).new _ [_] (by simp)
  have J:l.heap.size=w.heap.size+1+1+1:=by rw[z];simp
  have HW:=vv z;have S:=vv J;have O:=vv s;have t:=s.get 2 rfl |>.cell 0;have H:=s.get 2 rfl |>.lt;have u:=s.get 1 rfl |>.cell 0;have I:=s.get 1 rfl |>.lt;simp only[k06] at t u;clear z s J;go_enter func144,ntmps144;go_wp2_with fail;rw[<- HW.o];go_wp2_with fail;have C:Blk (l.alloc (.cells #[.slice B m d,.slice A n c] 37)) (w.heap.size+1+1+1) 37 [.slice B m d,.slice A n c]:=by rw[<- S.o];exact Blk.made l 37 [.slice B m d,.slice A n c]
  have K:qc l.heap.size l (l.alloc (.cells #[.slice B m d,.slice A n c] 37)):=(qb _ _).alloc lr _;have E:=vv (O.o.step K);refine(HK.o _ _ E.o.low C).mono ?_;rintro e F ⟨rfl,P⟩;have r:=vv (E.o.step P);clear P t H u I K C E O;have t:=r.o.get 2 rfl |>.cell 0;have H:=r.o.get 2 rfl |>.lt;have u:=r.o.get 1 rfl |>.cell 0;have I:=r.o.get 1 rfl |>.lt;simp only[k06] at t u;go_wp2;go_quiet (fail);go_wp2
 rotate_left;all_goals
  go_loopw [10,39] (fun q i wr=>∃(j y:Nat) (V:List Nat),i=.int .i64 j/\q=.int .u32 y/\y<=1/\j<=n/\V.length=n+1/\Own wr F.heap.size 54 V/\val (V.take j)+4294967296^j*y=val ((toL N).take j)+val ((toL M).take j)/\qc F.heap.size F wr) (fun _ i _=>n-(intOf i).toNat)
  case atStart=>exact⟨0,0,List.replicate (n+1) 0,rfl,rfl,by omega,k0x _,by simp,Own.made _ _ _,by simp [val],(q0n (qb _ _) _).alloc lr _⟩
  case round =>
   obtain⟨j,y,V,rfl,rfl,hy,hj,c5,L,a2,T⟩:=hrel;have HV:=vv a2;have x:=vv c5;have HO:=vv L;have U:=vv T;have W:=r.o.low.trans (T.mono r.o.low.size);have Z:=HA.o _ W;have Q:=HB.o _ W;have ho:=L.cell (i:=j) (by omega);have hf:=L.frozen j;have d8:=L.lt;clear a2 L T W t H u I;by_cases hjn:j<n
   ·obtain⟨b,off,e,d9,a1⟩:=Z.cell (by omega);have hx:=a1 j hjn;have a7:=c2.o j;clear a1 Z;by_cases hjm:j<m
    ·obtain⟨b',d3,e',d4,a0⟩:=Q.cell (by omega);have e0:=a0 j hjm;have a5:=c3.o j;clear a0 Q;subst e e';have t3:qe (j<m)=qo:=k04 hjm;go_wp2_with fail;refine(qcR (nth (toL N) j) (nth (toL M) j) y _ a7 a5 hy).mono ?_;rintro e f ⟨rfl,rfl⟩;go_wp2;go_roundw
     case rel =>exact⟨j+1,(nth (toL N) j+nth (toL M) j+y)/4294967296,V.set j ((nth (toL N) j+nth (toL M) j+y)%4294967296),by go_num,rfl,by omega,by omega,by rw[k0c];exact x.o,HO.o.set (by rw[x.o];omega) (k0i _ (by omega)) rfl,q1Z (by rw[x.o];omega) HV.o,U.o.setCell lr _⟩
     case measure=>simp [intOf];omega
    ·have E0:nth (toL M) j=0:=q0U _ _ (by rw[a6.o];omega);have c6:=vv E0;clear Q E0;subst e;have t3:qe (j<m)=qh:=k02 hjm;go_wp2_with fail;refine(qcR (nth (toL N) j) 0 y _ a7 (by omega) hy).mono ?_;rintro e f ⟨rfl,rfl⟩;go_wp2;go_roundw
     case rel =>refine⟨j+1,(nth (toL N) j+0+y)/4294967296,V.set j ((nth (toL N) j+0+y)%4294967296),by go_num,rfl,by omega,by omega,by rw[k0c];exact x.o,HO.o.set (by rw[x.o];omega) (k0i _ (by omega)) rfl,?_,U.o.setCell lr _⟩;have k:=q1Z (X:=toL N) (Y:=toL M) (V:=V) (by rw[x.o];omega) HV.o;rw[c6.o] at k;exact k
     case measure=>simp [intOf];omega
   ·obtain rfl:j=n:=by omega
    have a8:val (V.set j y)=N+M:=by have k1:=HV.o;rw[q0f (xs:=toL N) (by rw[c1.o];exact lr),q0f (xs:=toL M) (by rw[a6.o];exact c4.o),q04,q04] at k1;have k2:=q07 (V.set j y) j;rw[q0f (xs:=V.set j y) (by rw[k0c,x.o];exact lr),q0H V j y j (by rw[x.o];omega),k0p rfl,q3g _ _ _ _ lr] at k2;omega
    have a9:=vv a8;have b0:Own (wr.setCell ⟨F.heap.size,j,qf⟩ (.int .u32 (y:Int))) F.heap.size 54 (V.set j y):=HO.o.set (by rw[x.o];omega) (by omega) rfl;have b1:=b0.rd (n:=j+1) (c:=j+1) (by rw[k0c];exact x.o.symm) lr (by omega);have c7:=vv b1;have b2:=vv (U.o.setCell (p:=⟨F.heap.size,j,qf⟩) lr (.int .u32 (y:Int)));have t3:qe (j<j)=qh:=k02 (by omega);clear a8 b0 b1 Z Q;go_wp2_with fail;refine(b9.o _ _ _ _ _ c7.o a9.o).mono ?_;rintro e w3 ⟨D,G,rfl,b3,b4,b5⟩;have a3:=vv (r.o.step (b2.o.trans (b5.mono b2.o.size)));have b6:=vv b3;rw[a9.o] at b6;have c8:Hid (Fr w.heap.size D):=vv (fun a e=>by have:=b4 a e;cases this;exact⟨r.o.low.size,rfl⟩);have b7:=vv (a3.o.get 0 rfl);clear b3 b4 b5;go_wp2_with (with_reducible refine q00 rfl 37 (.tmp 4) (.tmp 70) rfl (w.heap.size+1+1) [.slice D G G] rfl rfl 37 _ b7.o (by kernel_rfl) rfl rfl ?_);intro w9 b8 a4;have c9:=vv (q0a a3.o.low a4 a3.o.low.size (by omega));have d1:=vv (b6.o.else_ b7.o rfl a4);have R:w9.cell? ⟨w.heap.size+1+1,0,qf⟩=qg (.slice D G G):=b8.cell 0;have d2:=vv R;clear b8 a4 R;go_wp2;have R:=d2.o;exact qm (v:=.tuple #[q0x D G G,.int .i64 0]) (by simp [results,results144,go_sem,R]) rfl ⟨D,G,rfl,d1.o,c8.o,c9.o⟩
theorem Add(A:Option qj)(n c N:Nat)(B:Option qj)(m d M:Nat)(w:qa)(ha:Rd w A n c (toL N))(hb:Rd w B m d (toL M))(hn:n<=16384)(hm:m<=16384)(hs:words (N+M)<=16384):qk qd 144 #[q0x A n c,q0x B m d] w (NatP (N+M) w):=by
 rcases k0A n m with h|h
 ·have:=qe7 qo B m d M A n c N w hb ha hm hn (k1l h) (fun _=>h) (by rw[k0Z];exact hs);rw[k0Z M N] at this;exact this
 ·exact qe7 qh A n c N B m d M w ha hb hn hm h (fun e=>by cases e) hs
end Pnt
namespace Hx
open Go Go.RowKit R5 Scn Fms Exa
theorem bias_nat{E:Nat}:q1p E=((2^(E-1):Nat):Int)-1:=by
 unfold q1p;have a:((2^(E-1):Nat):Int)=(2:Int)^(E-1):=by rw[k0C];rfl
 rw[a]
theorem odd_split{M:Nat}(h:0<M):M=oddN M*2^tz M:=by unfold oddN;rw[k0r (by omega)];obtain⟨m,a⟩:=q22 h;have e:M/2^tz M=2*m+1:=Nat.div_eq_of_eq_mul_right (k0a _) a;rw[e,k0g];exact a
end Hx
namespace Scn
open Go
abbrev bo(l:List UInt8):ByteArray:=⟨l.toArray⟩
def qeR(c:UInt8):Nat:=(qe3 c.toNat).getD 0
def qeS(c:UInt8):Nat:=c.toNat-48
def qfb(N q:Nat):List UInt8:=(Hx.hexL N (q+1)).take 1++(if 1<(Hx.hexL N (q+1)).length then 46::(Hx.hexL N (q+1)).drop 1 else[])
end Scn
namespace Hx
open Go Go.RowKit R5 Scn Fms Exa
def low(c:Nat):Nat:=if 65<=c/\c<=90 then c+32 else c
def fig(set s:ByteArray)(i:Nat):Int:=if i<s.size then Lib.indexByte set.data.toList (low (s.data.toList.getD i 0).toNat).toUInt8 else -1
end Hx
namespace R1
open Go Go.RowKit R5 Scn
def qek(N:Nat)(w:qa)(e:Ending)(w':qa):Prop:=∃A m c,e=.returned (.slice A m c)/\Rd w' A m c (toL N)/\Fr w.heap.size A/\qc w.heap.size w w'/\(A=qf->c=0)
theorem q5l{base:Nat}{m:Nat}{l:List ql}(h:w.ownsRow base t 1 (.slice A m c) n l):A=qf->c=0:=fun e=>by
 subst e;rcases h.2 with ⟨k,-⟩|⟨g,cap,cur,k,-⟩
 ·cases k;rfl
 ·cases k
theorem Check_ok(A:Option qj)(n c N:Nat)(w:qa)(h:Rd w A n c (toL N))(hn:n<=16384):qk qd 301 #[q0x A n c] w fun e w'=>e=.returned (.int .i64 0)/\qc w.heap.size w w':=by
 have d:=(R16.natOk_facts (q1y h hn)).2;have g:(n:Int)<=16384:=by omega
 rcases k01 n with a|a
 ·subst a;have k:qe ((16384:Int)<0)=qh:=rfl;clear h d;go_enter func301,ntmps301;go_wp2;go_ret;exact⟨rfl,(qb _ _).alloc lr _⟩
 obtain⟨m,rfl⟩:∃m,n=m+1:=⟨n-1,by omega⟩;obtain⟨b,off,rfl,i,f⟩:=h.cell a;have hx:=f m (by omega);have j:(m:Int)+1<=16384:=by omega
 have l:((m:Int)+1==0)=qh:=by rw[k05];omega
 have o:qe ((16384:Int)<(m:Int)+1)=qh:=k02 (by omega);have p:qe ((0:Int)<(m:Int)+1)=qo:=k04 (by omega);have q:(((nth (toL N) m:Nat):Int)==0)=qh:=by have:=d.resolve_left (by omega);rw[k0T] at this;rw[k05];omega
 clear h f a g d;go_enter func301,ntmps301;go_wp2;go_ret;exact⟨rfl,(qb _ _).alloc lr _⟩
theorem qbl(x s:Nat)(hx:x<4294967296):(bits .and .u64 ((x:Int)/2^s) 1==1)=(x/2^s%2==1):=by have a:x/2^s<18446744073709551616:=k0I (k0q _ _) (by omega);have:=Go.Proofs.YtabcgemembkkcaaGreatDoor.Fms.and_mask (x/2^s) 1 (by decide) a;rw[show((R3.tw 1-1:Nat):Int)=1 from rfl,k1A] at this;rw[q1m,this];rcases k0U (x/2^s) with h|h<;>rw[h]<;>rfl
theorem Bit(A:Option qj)(n c N i:Nat)(w:qa)(ha:Rd w A n c (toL N))(hn:n<=16384)(hi:i<=1048576):qk qd 346 #[q0x A n c,.int .i64 (i:Int)] w fun e w'=>e=.returned (.tuple #[.bool (N/2^i%2==1),.int .i64 0])/\qc w.heap.size w w':=by
 obtain⟨k,d⟩:=yx (w.alloc (.cells #[.slice A n c] 37));have g:Ctx w [(w.heap.size,37,[.slice A n c])] k:=by rw[d];exact(Ctx.nil w).new _ [_] rfl
 have u:=vv (Check_ok A n c N k (ha.below g.low rfl) hn);obtain⟨q,l⟩:=yx (i/32);obtain⟨s,m⟩:=yx (i%32);have E:(i:Int).tdiv 32=(q:Int):=by rw[k28 (by omega)];omega
 have F:(i:Int).tmod 32=(s:Int):=by rw[k0Q (by omega)];omega
 have G:(s:Int)<=31:=by omega
 have H:(q:Int)<=32768:=by omega
 have I:(i:Int)<=1048576:=by omega
 have j:=vv fun w' (h:qc w.heap.size w w')=>qa5 A n c q (toL N) w' (ha.below h rfl) (by omega)
 have f:=q4l N i;rw[<- l,<- m] at f;have a:=qbl (nth (toL N) q) s (ha.nth_lt q);rw[f] at a;obtain⟨y,p⟩:=yx (nth (toL N) q);rw[<- p] at j a;obtain⟨v,r⟩:=yx ((N/2^i%2==1));rw[<- r] at a ⊢;have x:=vv a;have z:=vv g;have C:=vv d;clear d g ha l m f a p r hn hi;go_enter func346,ntmps346;go_wp2_with fail;rw[<- C.o];refine u.o.mono ?_;rintro e J ⟨rfl,t⟩;have b:=vv (z.o.step t);have D:=b.o.get 0 rfl |>.cell 0;have K:=b.o.get 0 rfl |>.lt;simp only[k06] at D;clear t;go_wp2_with fail;refine(j.o _ b.o.low).mono ?_;rintro e w' ⟨rfl,rfl⟩;have a:=x.o;go_wp2;go_ret2;exact⟨rfl,b.o.low⟩
theorem qas{x:Nat}(hs:s<=31)(hy:y<2^s)(hx:x<4294967296):bits .or .u64 (IntKind.u64.wrap ((x:Int)*2^s)) (y:Int)=((x*2^s+y:Nat):Int)/\x*2^s+y<18446744073709551616/\(x*2^s+y)/4294967296<2^s:=by
 have g:2^s<=2^31:=k00 (by decide) hs;have c:(x+1)*2^s<=4294967296*2^s:=k0y _ hx;rw[k1f,k0S] at c;have d:x*2^s+y<4294967296*2^s:=by omega
 have a:x*2^s+y<18446744073709551616:=by omega
 refine⟨?_,a,k0s d⟩;have e:IntKind.u64.wrap ((x:Int)*2^s)=((x*2^s:Nat):Int):=by
  rw[k0f,k0C];have b:((x*2^s:Nat):Int)<18446744073709551616:=by omega
  rw[k0f,k0C] at b;have f:(0:Int)<=(x:Int)*((2:Nat):Int)^s:=k18 (k0k _) (Int.pow_nonneg (by decide));rw[IntKind.wrap_u64];show _=(x:Int)*((2:Nat):Int)^s;exact Int.emod_eq_of_lt f b
 rw[e];exact qaL x y s hy a
theorem q48{U:List Nat}(hU:U.length=q+j)(hk:k=32*q+s)(h:val U+4294967296^(q+j)*y=val (X.take j)*2^k):val (U++[(nth X j*2^s+y)%4294967296])+4294967296^(q+(j+1))*((nth X j*2^s+y)/4294967296)=val (X.take (j+1))*2^k:=by
 rw[q1t,hU,q07,k1f,<- h,<- k1M q j 1,k0d];have b:=k0F (nth X j*2^s+y) 4294967296;have c:4294967296^j*nth X j*2^k=4294967296^(q+j)*(nth X j*2^s):=by
  rw[hk,k0e,k0e,<- q1u];generalize 4294967296^j=P;generalize 4294967296^q=Q;generalize 2^s=S
  grind
 rw[c];generalize (nth X j*2^s+y)/4294967296=a at *
 generalize (nth X j*2^s+y)%4294967296=r at *
 have d:4294967296^(q+j)*(4294967296*a+r)=4294967296^(q+j)*(nth X j*2^s+y):=by rw[b]
 generalize 4294967296^(q+j)=P at *
 generalize nth X j*2^s=Z at *
 grind
theorem up(A:Option qj)(n c N k:Nat)(w:qa)(ha:Rd w A n c (toL N))(hn:n<=16384)(hk:k<=524288):qk qd 309 #[.slice A n c,.int .i64 (k:Int)] w (qek (N*2^k) w):=by
 rcases k01 n with C|C
 ·subst C;have hN:N=0:=q06.1 ha.words;subst hN;clear ha hk hn;go_enter func309,ntmps309;go_wp2;go_ret;exact⟨qf,0,0,rfl,by rw[k24];exact Rd.nil _,Fr.none_ _,qb _ _,fun _=>rfl⟩
 obtain⟨q,hq⟩:=yx (k/32);obtain⟨s,hs⟩:=yx (k%32);have b2:(k:Int).tdiv 32=(q:Int):=by rw[k28 (by omega)];omega
 have b3:(k:Int).tmod 32=(s:Int):=by rw[k0Q (by omega)];omega
 have b1:(s:Int)<=31:=by omega
 have R:s<=31:=by omega
 have b4:(q:Int)<=16384:=by omega
 have b5:q<=16384:=by omega
 have S:k=32*q+s:=by omega
 have b6:((n:Int)==0)=qh:=by rw[k05];omega
 have b7:=Go.Proofs.YtabcgemembkkcaaGreatDoor.AB.mk q (by omega);obtain⟨i0,hi,T,V,W⟩:=info_parts Go.Proofs.YtabcgemembkkcaaGreatDoor.AB.inf;obtain⟨b,off,rfl,a3,Y⟩:=ha.cell C;have a4:=vv Y;have a5:=vv ha.nth_lt;have a6:=vv ha.len;have HK:=vv S;have b8:(n:Int)<=16384:=by omega
 clear ha Y hq hs hk S C;go_enter func309,ntmps309;go_wp2;go_loopw [5,6,7] (fun v cy t wr=>∃(j y:Nat) (U:List Nat),t=.int .i64 j/\cy=.int .u64 y/\y<2^s/\j<=n/\U.length=q+j/\Lim U/\wr.ownsRow w.heap.size 54 1 v (q+j) (q0k U) /\val U+4294967296^(q+j)*y=val ((toL N).take j)*2^k/\qc w.heap.size w wr) (fun _ _ t _=>n-(intOf t).toNat)
 case atStart =>have hO:=Own.made w q 54;have hr:=Pnt.own_row (base:=w.heap.size) hO lr (by rw[k0H];omega);rw[k0H] at hr;exact⟨0,0,List.replicate q 0,rfl,rfl,k0a _,k0x _,by simp,q12 q,hr,by simp [val,q0d],(qb _ _).alloc lr _⟩
 case round =>
  obtain⟨j,y,U,rfl,rfl,M,hj,F,G,H,I,u⟩:=hrel;have HV:=vv I;have O:=vv F;have D:=vv H;have HU:=vv G;have f:=vv u;have b9:(y:Int)<=4294967295:=by have h2:2^s<=2^31:=k00 (by decide) R;omega
  by_cases hjn:j<n
  ·have hx:wr.cell? ⟨b,off+j,qf⟩=qg (.int .u32 ((nth (toL N) j:Nat):Int)):=(u.cell (p:=⟨b,off+j,qf⟩) a3).trans (a4.o j hjn);have J:=a5.o j;obtain⟨u1,P,E⟩:=qas R M J;have z:=q48 (X:=toL N) O.o HK.o HV.o;obtain⟨x,a0⟩:=yx (nth (toL N) j);rw[<- a0] at hx u1 P E z J;have c0:(x:Int)<=4294967295:=by omega
   obtain⟨Z,hZ⟩:=yx (x*2^s+y);rw[<- hZ] at u1 P E z;have HS:=vv z;have a7:=vv E;have hz:(Z:Int)<=18446744073709551615:=by omega
   clear I F G u M J P E z hZ H a0;go_wp2_with (at_builtin;refine qi _ rfl _ _ 35 rfl w.heap.size 54 i0 (.int .u32 0) 1 4 underlying35 hi T V W rfl (by decide) _ (q+j) (q0k U) rfl (D.o.alloc _) ⟨wr.heap.size,0,qf⟩ 1 1 [.int .u32 ((Z:Int)%4294967296)] rfl rfl (qn _ _ _) (by simp [Value.oneCell']) (by unfold maxLen;omega) (by omega) (by have:=f.o.size;simp;omega) ?_);intro Q h l a _;have g:h.ownsRow w.heap.size 54 1 Q (q+(j+1)) (q0k (U++[Z%4294967296])):=by
    have e:q0k (U++[Z%4294967296])=q0k U++[.int .u32 ((Z:Int)%4294967296)]:=by simp [q0k]
    rw[e];exact l
   have r:qc w.heap.size w h:=by have d:qc w.heap.size w (wr.alloc (.cells #[.int .u32 ((Z:Int)%4294967296)] 54)):=f.o.alloc f.o.size _;exact⟨a.os.trans d.os,a.tape.trans d.tape,a.output.trans d.output,k07 d.size a.size,fun i hi=>(a.block i (k03 hi d.size) (fun e=>by have:=(D.o.lt i e.symm).1;omega)).trans (d.block i hi)⟩
   have a8:=vv g;have K:=vv r;clear l a g r;go_wp2;go_roundw
   case rel=>exact⟨j+1,Z/4294967296,U++[Z%4294967296],by go_num,k0z _ (by omega),a7.o,by omega,by rw[k16,O.o];simp;omega,q0R.2 ⟨HU.o,q0y.2 ⟨k0i _ (by omega),q0L⟩⟩,a8.o,HS.o,K.o⟩
   case measure=>simp [intOf];omega
  ·obtain rfl:j=n:=by omega
   have hE:val (U++[y])=N*2^k:=by have e:=HV.o;rw[q0f (xs:=toL N) (by rw[a6.o];exact lr),q04] at e;rw[q1t,O.o];exact e
   have HE:=vv hE;have a9:y<4294967296:=by omega
   clear I F G u M H hE;go_wp2_with (at_builtin;refine qi _ rfl _ _ 35 rfl w.heap.size 54 i0 (.int .u32 0) 1 4 underlying35 hi T V W rfl (by decide) _ (q+j) (q0k U) rfl (D.o.alloc _) ⟨wr.heap.size,0,qf⟩ 1 1 [.int .u32 (y:Int)] rfl rfl (qn _ _ _) (by simp [Value.oneCell']) (by unfold maxLen;omega) (by omega) (by have:=f.o.size;simp;omega) ?_);intro Q h l a _;have g:h.ownsRow w.heap.size 54 1 Q (q+(j+1)) (q0k (U++[y])):=by
    have e:q0k (U++[y])=q0k U++[.int .u32 (y:Int)]:=by simp [q0k]
    rw[e];exact l
   have r:qc w.heap.size w h:=by have d:qc w.heap.size w (wr.alloc (.cells #[.int .u32 (y:Int)] 54)):=f.o.alloc f.o.size _;exact⟨a.os.trans d.os,a.tape.trans d.tape,a.output.trans d.output,k07 d.size a.size,fun i hi=>(a.block i (k03 hi d.size) (fun e=>by have:=(D.o.lt i e.symm).1;omega)).trans (d.block i hi)⟩
   obtain⟨Av,cv,rfl,a1,a2⟩:=q2x g (q0R.2 ⟨HU.o,q0y.2 ⟨a9,q0L⟩⟩) (by omega);have HT:=vv (qbB Av _ cv (U++[y]) h a1);have K:=vv r;have HF:=vv a2;have HZ:=vv (q5l g);clear l a g r a1 a2;go_wp2_with fail;refine HT.o.mono ?_;rintro e w' ⟨m,rfl,rfl,L⟩;rw[HE.o] at L;have b0:=vv L;clear L;go_wp2;go_ret;exact⟨_,m,cv,rfl,b0.o,HF.o,K.o,HZ.o⟩
theorem q9l(M j x:Nat)(h:x=M/4294967296^j%4294967296):M%4294967296^j+4294967296^j*x=M%4294967296^(j+1):=by rw[h,k0d,k3d]
theorem qbd(hN:N<4294967296^n)(hk:k=32*q+s):N/2^k<4294967296^(n-q):=by
 have a:N/2^k<=N/4294967296^q:=by rw[hk,k0e,<- q1u,<- k0h];exact k0q _ _
 refine k0I a (k0s ?_);rw[<- k0e];exact k03 hN (k00 (by decide) (by omega))
theorem down(A:Option qj)(n c N k:Nat)(w:qa)(ha:Rd w A n c (toL N))(hn:n<=16384)(hk:k<=524288):qk qd 347 #[.slice A n c,.int .i64 (k:Int)] w (qek (N/2^k) w):=by
 obtain⟨q,hq⟩:=yx (k/32);obtain⟨s,hs⟩:=yx (k%32);have c1:(k:Int).tdiv 32=(q:Int):=by rw[k28 (by omega)];omega
 have c2:(k:Int).tmod 32=(s:Int):=by rw[k0Q (by omega)];omega
 have c0:(s:Int)<=31:=by omega
 have a8:s<32:=by omega
 have c3:(q:Int)<=16384:=by omega
 have c4:q<=16384:=by omega
 have u:k=32*q+s:=by omega
 obtain⟨M,p⟩:=yx (N/2^k);have I:M<4294967296^(n-q):=by have h:=ha.lt;rw[q04] at h;rw[p];exact qbd h u
 have a9:Hid (∀j,(nth (toL N) (q+j)+4294967296*nth (toL N) (q+j+1))/2^s%4294967296=M/4294967296^j%4294967296):=vv fun j=>by
  rw[q2f ha.lim (q+j) s a8,q04,p,k0h,k0h,u,k0e,k0e,<- q1u];congr 2;generalize 4294967296^j=P;generalize 4294967296^q=Q;generalize 2^s=S
  grind
 rw[<- p];have b0:=vv I;obtain⟨i0,hi,b1,b2,b3⟩:=info_parts Go.Proofs.YtabcgemembkkcaaGreatDoor.AB.inf;have J:=vv fun k l (h:qc w.heap.size w l) (hk:k<=100000)=>qa5 A n c k (toL N) l (ha.below h rfl) (by omega)
 have K:=vv ha.nth_lt;have c5:(n:Int)<=16384:=by omega
 clear ha hq hs hk u p I;go_enter func347,ntmps347;go_wp2;go_loopw [5,6] (fun v t wr=>∃(j:Nat) (U:List Nat),t=.int .i64 ((q:Int)+(j:Int))/\j<=n-q/\U.length=j/\Lim U/\wr.ownsRow w.heap.size 54 1 v j (q0k U) /\val U=M%4294967296^j/\qc w.heap.size w wr) (fun _ t _=>q+n-(intOf t).toNat)
 case atStart=>exact⟨0,[],by simp,k0x _,rfl,q0L,World.ownsRow_nil _ _ _ _,by rw[k0B,Nat.mod_one];rfl,qb _ _⟩
 case round =>
  obtain⟨j,U,rfl,hj,L,O,z,R,T⟩:=hrel;have HV:=vv R;have HL:=vv L;have r:=vv z;have HU:=vv O;have a:=vv T;clear R L O T;by_cases hjn:q+j<n
  ·have b4:(q:Int)+(j:Int)<(n:Int):=by omega
   have C:=J.o (q+j) _ a.o (by omega);have D:=J.o (q+j+1) _ a.o (by omega);have E:=K.o (q+j);have F:=K.o (q+j+1);have V:=a9.o j;have f:=q9l M j _ V;obtain⟨x,W⟩:=yx (nth (toL N) (q+j));obtain⟨y,X⟩:=yx (nth (toL N) (q+j+1));rw[<- W] at C E f;rw[<- X] at D F f;have g:=q4T x y s E F;obtain⟨Z,H⟩:=yx ((x+4294967296*y)/2^s%4294967296);rw[<- H] at f g;have Y:Z<4294967296:=by rw[H];exact k0i _ (by omega)
   have b5:=vv Y;have HS:=vv f;have a2:=vv C;have a3:=vv D;have b6:=vv g;have c6:(x:Int)<=4294967295:=by omega
   have c7:(y:Int)<=4294967295:=by omega
   have e1:((q+j:Nat):Int)=(q:Int)+(j:Int):=by omega
   have e2:((q+j+1:Nat):Int)=(q:Int)+(j:Int)+1:=by omega
   rw[e1] at a2;rw[e2] at a3;clear e1 e2 z W X H f V g C D E F Y hj;go_wp2_with fail;refine a2.o.mono ?_;rintro e l ⟨rfl,rfl⟩;go_wp2_with fail;refine a3.o.mono ?_;rintro e l ⟨rfl,rfl⟩;have g:=b6.o;go_wp2_with (at_builtin;refine qi _ rfl _ _ 35 rfl w.heap.size 54 i0 (.int .u32 0) 1 4 underlying35 hi b1 b2 b3 rfl (by decide) _ j (q0k U) rfl (r.o.alloc _) ⟨wr.heap.size,0,qf⟩ 1 1 [.int .u32 (Z:Int)] rfl rfl (qn _ _ _) (by simp [Value.oneCell']) (by unfold maxLen;omega) (by omega) (by have:=a.o.size;simp;omega) ?_);intro v' w1 a0 b _;have a1:w1.ownsRow w.heap.size 54 1 v' (j+1) (q0k (U++[Z])):=by
    have e:q0k (U++[Z])=q0k U++[.int .u32 (Z:Int)]:=by simp [q0k]
    rw[e];exact a0
   have a4:qc w.heap.size w w1:=by have d:qc w.heap.size w (wr.alloc (.cells #[.int .u32 (Z:Int)] 54)):=a.o.alloc a.o.size _;exact⟨b.os.trans d.os,b.tape.trans d.tape,b.output.trans d.output,k07 d.size b.size,fun i hi=>(b.block i (k03 hi d.size) (fun e=>by have:=(r.o.lt i e.symm).1;omega)).trans (d.block i hi)⟩
   have b7:=vv a1;have b8:=vv a4;clear a0 b a1 a4 g;go_wp2;go_roundw
   case rel=>exact⟨j+1,U++[Z],by go_num,by omega,by rw[k16,HL.o];rfl,q0R.2 ⟨HU.o,q0y.2 ⟨b5.o,q0L⟩⟩,b7.o,by rw[q1t,HL.o,HV.o];exact HS.o,b8.o⟩
   case measure=>simp [intOf];omega
  ·have b4:¬(q:Int)+(j:Int)<(n:Int):=by omega
   have a5:j=n-q:=by omega
   have HE:Hid (val U=M):=vv (by rw[HV.o,k0E (by rw[a5];exact b0.o)]);obtain⟨Av,cv,rfl,a6,a7⟩:=q2x r.o HU.o (by omega);have HT:=vv (qbB Av _ cv U _ a6);have HF:=vv a7;have HZ:=vv (q5l r.o);clear z a6 a7 hjn a5 hj;go_wp2_with fail;refine HT.o.mono ?_;rintro e l ⟨m,rfl,rfl,G⟩;rw[HE.o] at G;have b9:=vv G;clear G;go_wp2;go_ret;exact⟨_,m,cv,rfl,b9.o,HF.o,a.o,HZ.o⟩
theorem qbk{v:Nat}(h:0<v):bl v=1+bl (v/2):=by
 rcases k01 (v/2) with a|a
 ·have c:v=1:=by omega
  subst c;rfl
 ·have:=q6t (x:=v) (b:=1) (by rw[k1A];omega)
  rwa [k1A] at this
theorem size(A:Option qj)(n c N:Nat)(w:qa)(ha:Rd w A n c (toL N))(hn:n<=16384):qk qd 308 #[.slice A n c] w fun e w'=>e=.returned (.int .i64 ((bl N:Nat):Int))/\w=w':=by
 have G:(n:Int)<=16384:=by omega
 have f:=ha.words;rcases k01 n with g|g
 ·subst g;have g:N=0:=q06.1 f;subst g;clear f hn ha;go_enter func308,ntmps308;go_wp2;go_ret;exact⟨rfl,rfl⟩
 ·have k:0<N:=by
   rcases k01 N with h|h
   ·subst h;rw[q0h] at f;omega
   ·exact h
  obtain⟨d,_⟩:=bl_words k;rw[f] at d;obtain⟨m,rfl⟩:∃m,n=m+1:=⟨n-1,by omega⟩;rw[k0T] at d;obtain⟨b,off,rfl,H,l⟩:=ha.cell (by omega);have hx:=l m (by omega);have p:=ha.nth_lt m;obtain⟨y,q⟩:=yx (nth (toL N) m);rw[<- q] at hx p d;have j:bl y<=32:=q0A (by omega);obtain⟨L,r⟩:=yx (bl N);rw[<- r] at d ⊢;have C:=vv d;have I:((m:Int)+1==0)=qh:=by rw[k05];omega
  have s:=vv j;clear f hn ha g k d l q r j;go_enter func308,ntmps308;go_wp2;go_loop [3,4] (fun a v=>∃t x:Nat,x<4294967296/\a=.int .i64 (32*(m:Int)+(t:Int))/\v=.int .u32 (x:Int)/\t+bl x=bl y) (fun _ v=>(intOf v).toNat)
  case atStart=>exact⟨0,y,p,by simp,rfl,by simp⟩
  case round =>
   obtain⟨t,x,J,rfl,rfl,u⟩:=hrel;have i:=vv u;have K:(t:Int)<=32:=by have:=s.o;omega
   clear u;rcases k01 x with h|h
   ·subst h;have D:Hid (32*(m:Int)+(t:Int)=(L:Int)):=vv (by have E:=i.o;rw[q8q] at E;have:=C.o;omega);go_wp2;go_ret;exact⟨q0X D.o,rfl⟩
   ·have O:qe (0<x)=qo:=k04 h;have z:=vv (qbk h);have F:=z.o;have M:(t:Int)+1<=32:=by have:=s.o;have:=i.o;omega
    clear F;go_wp2;go_round
    case rel=>exact⟨t+1,x/2,by omega,by go_num,k0z _ (by omega),by have:=i.o;have:=z.o;omega⟩
    case measure=>simp [intOf];omega
end R1
end Go.Proofs.YtabcgemembkkcaaGreatDoor
