/- Lemmas. -/
import Derived.Test.YthopehoklmgphaaGreatDoorPartBQ
import Derived.Test.YthopehoklmgphaaGreatDoorPartBO
import Derived.Test.YthopehoklmgphaaGreatDoorPartBI
set_option linter.all false
set_option maxHeartbeats 8000000
set_option maxRecDepth 100000
open Go.Proofs.Tryz
open Bool renaming false->qa,true->qm
open Go renaming bodyPost_ret->qb,RowKit.Below.refl->qf,World->qg,Calls->qk,Value->ql
open Option renaming none->qc,some->qh
open Decidable renaming decide->qd
open Go.Proofs.Tryz renaming prog->qe
open Go.RowKit renaming Hid->qi,Below->qj
namespace Go.Proofs.YthopehoklmgphaaGreatDoor
variable{w w1 w2 w':qg}{g n c:Nat}{t:TypeId}{cs:List ql}{xs L:List Nat}
namespace Hx
open Go Go.RowKit R5 Scn Fms Exa
def RdP(bits flags:Nat)(w:qg)(e:Ending)(w':qg):Prop:=
 e=.returned (.tuple #[.int .u64 (bits:Int),.int .u8 (flags:Int),.nilIface])/\qj w.heap.size w w'
end Hx
section
open Go Go.RowKit Scn Hx
abbrev q8l:=Nat × TypeId × List ql
structure Ctx(w:qg)(bs:List q8l)(w':qg):Prop where
 low:qj w.heap.size w w'
 all:∀x∈bs,Blk w' x.1 x.2.1 x.2.2
theorem Ctx.nil(w:qg):Ctx w [] w:=⟨qf _ _,fun _ h=>by cases h⟩
theorem Ctx.step{bs:List q8l}(h:Ctx w bs w1)(hb:qj w1.heap.size w1 w2):Ctx w bs w2:=⟨h.low.trans (hb.mono h.low.size),fun x hx=>(h.all x hx).below hb⟩
theorem Ctx.drew{bs:List q8l}(h:Ctx w bs w1):Ctx w bs w1.drew:=h.step (q07 (qf _ _))
theorem Ctx.undrew{bs:List q8l}(h:Ctx w bs w1)(hb:qj w1.heap.size w1.drew w2):Ctx w bs w2:=h.step ⟨hb.os,hb.tape,hb.output,hb.size,hb.block⟩
theorem Ctx.new{bs:List q8l}(h:Ctx w bs w1)(t:TypeId)(cs:List ql)(hg:g=w1.heap.size):Ctx w ((g,t,cs)::bs) (w1.alloc (.cells cs.toArray t)):=by
 subst hg;refine⟨h.low.trans (((qf w1.heap.size w1).alloc lr _).mono h.low.size),fun x hx=>?_⟩;rcases k1E.1 hx with rfl|hx
 ·exact Blk.made _ _ _
 ·exact(h.all x hx).alloc _
theorem Ctx.get{bs:List q8l}(h:Ctx w bs w')(i:Nat)(hi:bs[i]?=qh (g,t,cs)):Blk w' g t cs:=h.all (g,t,cs) (k2D hi)
theorem Ctx.put{bs:List q8l}(h:Ctx w bs w1)(i:Nat){old:List ql}(hi:bs[i]?=qh (g,t,old))(hne:∀j x,j≠i->bs[j]?=qh x->x.1≠g)(hw:w.heap.size<=g)
  (hb:Blk w2 g t cs) (hg:w1.grownBy w2 (qh g)):Ctx w (bs.set i (g,t,cs)) w2:=by
 refine⟨q0h h.low hg h.low.size hw,fun x hx=>?_⟩;obtain⟨j,a⟩:=List.getElem?_of_mem hx;by_cases e:j=i
 ·subst e;rw[List.getElem?_set_self' ] at a;rw[hi] at a;cases a;exact hb
 ·rw[List.getElem?_set_ne (fun k=>e k.symm)] at a;exact(h.all x (k2D a)).grown hg (fun k=>hne j x e a (k1M k).symm)
theorem Ctx.write{bs:List q8l}(h:Ctx w bs w1)(hg:w1.grownBy w2 (qh g))(hw:w.heap.size<=g)(hne:∀x∈bs,x.1≠g):Ctx w bs w2:=⟨q0h h.low hg h.low.size hw,fun x hx=>(h.all x hx).grown hg (fun k=>hne x hx (k1M k).symm)⟩
theorem Ctx.row{bs:List q8l}(h:Ctx w bs w1){row:Option Nat}(hg:w1.grownBy w2 row)(hw:∀b,row=qh b->w.heap.size<=b/\∀x∈bs,x.1≠b):Ctx w bs w2:=by refine⟨⟨hg.os.trans h.low.os,hg.tape.trans h.low.tape,hg.output.trans h.low.output,k06 h.low.size hg.size,fun i hi=>?_⟩,fun x hx=>(h.all x hx).grown hg (fun k=>(hw _ k).2 x hx rfl)⟩;exact(hg.block i (k01 hi h.low.size) (fun k=>by have:=(hw _ k.symm).1;omega)).trans (h.low.block i hi)
theorem Ctx.fs{bs:List q8l}{l:List Ob}(h:Ctx w bs w1)(hf:Fs l w1 w2)(hw:∀p∈l,w.heap.size<=p.1)(hne:∀x∈bs,∀p∈l,p.1≠x.1):Ctx w bs w2:=⟨hf.below h.low h.low.size hw,fun x hx=>(hf.block x.1 (h.all x hx).lt (hne x hx)).trans (h.all x hx)⟩
theorem Ctx.rd{bs:List q8l}(h:Ctx w bs w'){A:Option Addr}(hr:Rd w A n c xs):Rd w' A n c xs:=hr.below h.low rfl
theorem Ctx.std{bs:List q8l}(h:Ctx w bs w')(hs:Std w):Std w':=hs.below h.low
end
namespace Dlx
open Go Go.RowKit Go.Proofs.YthopehoklmgphaaGreatDoor Scn
theorem qdL(x:Int)(w:qg):qk qe 209 #[.int .i64 x] w fun e w'=>e=.returned (.int .i64 (q2u x))/\w=w':=by obtain⟨c,a⟩:∃c,max (-1073741824) (min x 1073741824)=c:=⟨_,rfl⟩;have b:qi (q2u x=c):=vv (by unfold q2u;exact a);go_enter func209,ntmps209;go_wp2;go_ret;exact⟨q0o (by rw[b.o]),rfl⟩
def qeS(g:Nat)(L:List Nat)(t:ql):Prop:=
 ∃(k m c:Nat) (A:Option Addr),m+k=L.length/\t=.slice A m c/\(0<m->A=qh ⟨g,k,qc⟩/\m<=c)/\Lx.led L=Lx.led (L.drop k)
def qeU(g k:Nat)(T:List Nat)(x:Int)(t e:ql):Prop:=
 ∃(j c:Nat) (y:Int) (A:Option Addr),j<=T.length/\t=.slice A j c/\e=.int .i64 y/\y+(j:Int)=x+(T.length:Int)/\(0<j->A=qh ⟨g,k,qc⟩/\j<=c)/\Lx.cut T=Lx.cut (T.take j)
theorem q9Y(neg:Bool)(L:List Nat)(x:Int)(v:ql)(lo:Nat)(w:qg)(h:w.ownsRow lo 5 1 v L.length (u8s L))(hL:L.length<=131072)(h16:∀d∈L,d<16)(hx1:-2199023255552<=x)(hx2:x<=2199023255552):qk qe 140 #[.bool neg,v,.int .i64 x] w fun e w'=>e=.returned (Lx.decV neg L x)/\qj w.heap.size w w':=by
 obtain⟨A0,cap,rfl⟩:=q0E h;obtain⟨g,hg⟩:∃g,0<L.length->A0=qh ⟨g,0,qc⟩/\L.length<=cap:=by
  by_cases n:0<L.length
  ·rcases h.2 with ⟨_,e⟩|⟨g,c,d6,e,_,_,hc,_⟩
   ·omega
   ·cases e;exact⟨g,fun _=>⟨rfl,hc⟩⟩
  ·exact⟨0,fun e=>absurd e n⟩
 obtain⟨s,a7⟩:=yx (w.alloc (.cells #[.bool qa,.string ⟨#[]⟩,.int .i64 0] 85));have D:Ctx w [(w.heap.size,85,[.bool qa,.string ⟨#[]⟩,.int .i64 0])] s:=by rw[a7];exact(Ctx.nil w).new _ _ rfl
 have M:qi (∀W,qj s.heap.size s W->∀i,i<L.length->W.cell? ⟨g,i,qc⟩=qh (.int .u8 ((nth L i:Nat):Int))/\g<W.heap.size):=vv (fun W a i hi=>by obtain⟨e,-⟩:=hg (by omega);subst e;obtain⟨b,G,q3,q4⟩:=q27 h hi;have h1:=(D.low.cell (p:=⟨g,i,qc⟩) q4).trans b;have h2:g<s.heap.size:=k01 q4 D.low.size;exact⟨(a.cell (p:=⟨g,i,qc⟩) h2).trans h1,k01 h2 a.size⟩);have HC:=vv D;have HW:=vv a7;have b9:qi (∀i,i<L.length->nth L i<16):=vv (fun i hi=>h16 _ (q5m hi));have H0:qi (qeS g L (.slice A0 L.length cap)):=vv ⟨0,L.length,cap,A0,by omega,rfl,hg,by rw[k0L]⟩;clear h D a7 hg h16;go_enter func140,ntmps140;go_wp2_with fail;rw[<- HW.o];go_loop [1] (fun t=>qeS g L t) (fun t=>B.vlen t)
 case atStart=>exact H0.o
 case round =>
  clear H0;obtain⟨k,m,c,A,hm,rfl,I,Y⟩:=hrel;have d7:(m:Int)<=131072:=by omega
  by_cases hgo:0<m/\nth L k=0
  ·obtain⟨hm0,hn0⟩:=hgo;obtain⟨rfl,c0⟩:=I hm0;obtain⟨b,G⟩:=M.o s (qf _ _) k (by omega);rw[hn0] at b;have HN:qi (Lx.led L=Lx.led (L.drop (k+1))):=vv (by rw[Y,Lx.led_step L k (by omega) hn0]);have E:=vv (And.intro hm c0);have d8:(1:Int)<=(m:Int):=by omega
   have b6:(0:Int)<(m:Int):=by omega
   clear Y hn0 hm I;by_cases hc1:c=1
   ·subst hc1;go_wp2;go_round
    case rel=>exact⟨k+1,_,_,_,by have:=E.o;omega,rfl,fun e=>absurd e (by have:=E.o;omega),HN.o⟩
    case measure=>simp only[B.vlen];omega
   ·go_wp2;go_round
    case rel=>exact⟨k+1,_,_,_,by have:=E.o;omega,rfl,fun e=>⟨rfl,by have:=E.o;omega⟩,HN.o⟩
    case measure=>simp only[B.vlen];omega
  ·have HT:qi (Lx.led L=L.drop k):=vv (by
    rw[Y];by_cases n:0<m
    ·exact Lx.led_end L k (by omega) (fun e=>hgo ⟨n,e⟩)
    ·obtain rfl:k=L.length:=by omega
     rw[Lx.led_none,List.drop_length])
   obtain⟨T,hT⟩:=yx (L.drop k);have a8:T.length=m:=by rw[hT,k0o];omega
   have Z:qi (∀i,i<m->nth T i=nth L (k+i)):=vv (fun i _=>by rw[hT];exact q0J L k i);rw[<- hT] at HT;have E:=vv hm;have a4:=vv a8;have c1:qi (qeU g k T x (.slice A m c) (.int .i64 x)):=vv ⟨m,c,x,A,by omega,rfl,rfl,by omega,I,by rw[<- a8,k1m]⟩;have a2:m=0\/(0<m/\nth L k≠0):=by
    rcases k04 m with n|n
    ·exact .inl n
    ·exact .inr ⟨n,fun e=>hgo ⟨n,e⟩⟩
   clear hT Y hgo a8;rcases a2 with hm0|⟨hm0,hn0⟩
   focus
    subst hm0;clear I;go_wp2_with fail
   rotate_left
   focus
    obtain⟨rfl,c0⟩:=I hm0;obtain⟨b,G⟩:=M.o s (qf _ _) k (by have:=E.o;omega);have b6:(0:Int)<(m:Int):=by omega
    have t1:(((nth L k:Nat):Int)==0)=qa:=by rw[k02];omega
    clear I;go_wp2_with fail;clear b G t1 hn0
   rotate_left;all_goals
    go_loop [1,2] (fun t e=>qeU g k T x t e) (fun t _=>B.vlen t)
    case atStart=>exact c1.o
    case round =>
     clear c1;obtain⟨j,P,y,A',hj,rfl,rfl,f,N,hcut⟩:=hrel;have a9:=a4.o;have b0:=E.o;have d9:(j:Int)<=131072:=by omega
     have e0:-2199023255552<=y:=by omega
     have e1:y<=2199023400000:=by omega
     by_cases hgo2:0<j/\nth T (j-1)=0
     ·obtain⟨a5,b1⟩:=hgo2;obtain⟨q,l⟩:∃q,q+1=j:=⟨j-1,by omega⟩;obtain⟨rfl,b2⟩:=N a5;obtain⟨b,G⟩:=M.o s (qf _ _) (k+q) (by omega);rw[<- Z.o q (by omega),show q=j-1 by omega,b1] at b;rw[show j-1=q by omega] at b;have HN:qi (Lx.cut T=Lx.cut (T.take q)):=vv (by rw[hcut,<- l];exact Lx.cut_step T q (by omega) (by rw[show q=j-1 by omega];exact b1));have HF:qi (q<=T.length/\y+1+(q:Int)=x+(T.length:Int)/\q+1=j/\j<=P):=vv ⟨by omega,by omega,l,b2⟩;have b7:(0:Int)<(j:Int):=by omega
      have c2:(j:Int)-1=(q:Int):=by omega
      have c3:(q:Int)<(j:Int):=by omega
      have e2:(q:Int)<=(P:Int):=by omega
      have e3:¬P=0:=by omega
      clear hcut b1 hj N f a9 b0 l;go_wp2;go_round
      case rel=>exact⟨q,P,y+1,_,HF.o.1,by first|rfl|simp,by first|rfl|go_num,HF.o.2.1,fun _=>⟨rfl,by have:=HF.o;omega⟩,HN.o⟩
      case measure=>simp only[B.vlen];have:=HF.o;omega
     ·have HS:qi (Lx.cut T=T.take j):=vv (by
       rw[hcut];by_cases n:0<j
       ·have e:=Lx.cut_end T (j-1) (by omega) (fun e=>hgo2 ⟨n,e⟩);rw[show j-1+1=j by omega] at e;exact e
       ·obtain rfl:j=0:=by omega
        rw[Lx.cut_none,k2F])
      have c4:qi (Lx.decS L=T.take j):=vv (by unfold Lx.decS;rw[HT.o];exact HS.o);have c9:qi (Lx.decT L=T):=vv (by unfold Lx.decT;exact HT.o);by_cases a5:j=0
      ·subst a5;have HV:qi (Lx.decV neg L x=.agg #[.bool neg,.string ⟨#[]⟩,.int .i64 0]):=vv (by unfold Lx.decV;rw[c4.o,k2F,if_pos rfl]);clear hcut hgo2 hj N f a9 b0;have l:=HC.o.get 0 rfl;go_wp2_with (with_reducible refine q05 rfl 85 (.tmp 6) (.tmp 43) rfl w.heap.size [.bool neg,.string ⟨#[]⟩,.int .i64 0] rfl rfl 85 _ l (by kernel_rfl) rfl rfl ?_);intro w8 a O;have C:=vv (HC.o.put 0 rfl (fun i y hi f=>by match i,hi,f with|i+1,_,f=>cases f) lr a O);clear a O l;go_wp2;have Q:=C.o.get 0 rfl |>.cell 0;have R:=C.o.get 0 rfl |>.cell 1;have S:=C.o.get 0 rfl |>.cell 2;simp only[k07,k0c] at Q R S;rw[HV.o];exact qb (v:=.agg #[.bool neg,.string ⟨#[]⟩,.int .i64 0]) (by simp [results,results140,go_sem,Q,R,S]) rfl ⟨rfl,C.o.low⟩
      ·obtain⟨q,l⟩:∃q,q+1=j:=⟨j-1,by omega⟩;obtain⟨rfl,b2⟩:=N (by omega);obtain⟨b,G⟩:=M.o s (qf _ _) (k+q) (by omega);rw[<- Z.o q (by omega)] at b;have t3:(((nth T q:Nat):Int)==0)=qa:=by rw[k02];intro e;refine hgo2 ⟨by omega,?_⟩;rw[show j-1=q by omega];omega
       have HV:qi (Lx.decV neg L x=.agg #[.bool neg,.string (txt ((T.take j).map (·+48))),.int .i64 (q2u y)]):=vv (by unfold Lx.decV;rw[c4.o,c9.o,if_neg (fun e=>by have:=k0g List.length e;rw[k0l,k1p] at this;omega),k0l];rw[show x+((T.length-min j T.length:Nat):Int)=y by omega]);have b7:(0:Int)<(j:Int):=by omega
       have c2:(j:Int)-1=(q:Int):=by omega
       have c3:(q:Int)<(j:Int):=by omega
       have d0:=B.mk8' j (by omega);have te:((j:Int)==0)=qa:=by rw[k02];omega
       have U:qi (j<=T.length/\T.length+k=L.length/\j<=P):=vv ⟨by omega,by omega,b2⟩;clear hcut hgo2 hj N f a9 b0 a5 l;go_wp2_with fail;obtain⟨H,hH⟩:=yx (s.heap.size);have HH:=vv hH;have b3:qi (w.heap.size<H):=vv (by rw[hH];exact(HC.o.get 0 rfl).lt);rw[<- hH];clear b G t3 d0 hH c2 c3;go_loopw [8] (fun i wr=>∃(p:Nat) (V:List Nat),i=.int .i64 (p:Int)/\p<=j/\V.length=j/\q2M wr H 5 V/\(∀r,r<p->nth V r=nth T r+48)/\Ctx w [(w.heap.size,85,[.bool qa,.string ⟨#[]⟩,.int .i64 0])] wr/\qj H s wr) (fun i _=>j-(intOf i).toNat)
       case atStart =>exact⟨0,List.replicate j 0,rfl,k0d _,k0Y,by rw[HH.o];exact q2M.made _ _ _,fun r hr=>absurd hr (by omega),HC.o.step ((qf _ _).alloc lr _),(qf _ _).alloc (by rw[HH.o];exact lr) _⟩
       case round =>
        obtain⟨p,V,rfl,hp,X,F,J,D,a⟩:=hrel;have b4:=vv X;have d1:=vv F;have d2:=vv J;have c5:=vv D;have c6:=vv a;rcases k0M p j with a6|a6
        ·obtain⟨r1,r2⟩:=M.o wr (by rw[<- HH.o];exact c6.o) (k+p) (by have:=U.o;omega);have a0:=b9.o (k+p) (by have:=U.o;omega);have a1:qi (nth T p=nth L (k+p)):=vv (Z.o p (by have:=U.o;omega));obtain⟨d,J⟩:=yx (nth L (k+p));rw[<- J] at r1 a0 a1;have e4:=F.cell (i:=p) (by omega);have e5:=F.frozen p;have e6:=F.lt;have e7:(p:Int)<(j:Int):=by omega
         have e8:(d:Int)<16:=by omega
         have b5:=vv a6;clear J F D a X hp a6 a0;go_wp2;go_roundw
         case rel =>
          refine⟨p+1,V.set p (d+48),by first|rfl|go_num,b5.o,by rw[k0e];exact b4.o,d1.o.set (by rw[b4.o];exact b5.o) (by omega),fun r hr=>?_,c5.o.write (g:=H) (q09 (World.grownBy.refl _ _) (.inl rfl) _) (k1j b3.o) (fun z hz=>by rw[k0j.1 hz];have:=b3.o;show w.heap.size≠H;omega),c6.o.setCell (p:=⟨H,p,qc⟩) lr _⟩;by_cases hrp:r=p
          ·subst hrp;rw[q1f _ r _ r (by rw[b4.o];exact b5.o),if_pos rfl,a1.o]
          ·rw[q0z _ _ hrp];exact d2.o r (by omega)
         case measure=>simp [intOf];omega
        ·obtain rfl:p=j:=by omega
         have c7:qi (V=(T.take p).map (·+48)):=vv (Lx.row_figs X (by rw[k0l,a4.o];have:=U.o;omega) (fun r hr=>by rw[J r hr];congr 1;unfold nth;rw[k08,k08,k15,if_pos hr]));have b8:qi (wr.ownsRow (w.heap.size+1) 5 1 (.slice (qh ⟨H,0,qc⟩) p p) p (u8s V)):=vv (B.own8_row F X (by have:=b3.o;omega) (by unfold maxLen;omega));have HU:qi (∀u∈V,u<256):=vv (fun u hu=>by rw[c7.o] at hu;obtain⟨d,d3,rfl⟩:=List.mem_map.1 hu;obtain⟨i,hi,e⟩:=k2H (List.mem_of_mem_take d3);have h1:=b9.o (k+i) (by have:=U.o;rw[a4.o] at hi;omega);have h2:=Z.o i (by rw[a4.o] at hi;exact hi);rw[Lx.nth_at T i hi,e] at h2;omega);have d4:=vv fun W=>qdL y W
         clear J F D a X hp a6;go_wp2_with fail;refine q02 (fun w'=>(convert 56 9 (.slice (qh ⟨H,0,qc⟩) p p)).run qe w'=.ok (.string (txt V)) w') 6
          (.still 0 (.still 1 (.still 2 (.still 3 (.one 4 (.still 5 .done)))))) (by kernel_rfl) (by kernel_rfl) (fun _ _ d _ _ h=>by cases d<;>exact h) (q2H (q0A b8.o (w':=wr.drew) (fun _ _ _=>rfl)) HU.o) (fun hS0=>?_)
         iterate 4
          refine q01 (v:=?_) rfl (by rfl) ?_ ?_;rotate_left
          ·intro w d5;go_simp;with_reducible rfl
          simp only[Act.put,sa,sb,sc]
         refine q04 rfl (by rfl) (fun K hK=>?_);go_simp;refine(d4.o _).mono ?_;rintro e w' ⟨rfl,rfl⟩;refine hK.out _ _ hS0 (fun a3=>?_);clear hK a3 hS0
         iterate 1
          refine q01 (v:=?_) rfl (by rfl) ?_ ?_;rotate_left
          ·intro w d5;go_simp;with_reducible rfl
          simp only[Act.put,sa,sb,sc]
         refine q0a ?_;simp only[k0P,k0L];have c8:=vv c5.o.drew;have l:=c8.o.get 0 rfl;go_wp2_with (with_reducible refine q05 rfl 85 (.tmp 6) (.tmp 66) rfl w.heap.size [.bool neg,.string (txt V),.int .i64 (q2u y)] rfl rfl 85 _ l (by kernel_rfl) rfl rfl ?_);intro w8 a O;have C:=vv (c8.o.put 0 rfl (fun i y hi f=>by match i,hi,f with|i+1,_,f=>cases f) lr a O);clear a O l;go_wp2;have Q:=C.o.get 0 rfl |>.cell 0;have R:=C.o.get 0 rfl |>.cell 1;have S:=C.o.get 0 rfl |>.cell 2;simp only[k07,k0c] at Q R S;rw[HV.o,<- c7.o];exact qb (v:=.agg #[.bool neg,.string (txt V),.int .i64 (q2u y)]) (by simp [results,results140,go_sem,Q,R,S]) rfl ⟨rfl,C.o.low⟩
end Dlx
namespace R2
open Go Go.RowKit B R5 Scn AB
def qeQ(N:Nat)(w:qg)(e:Ending)(w':qg):Prop:=∃A n c,e=.returned (q4w A n c)/\Rd w' A n c (toL N)/\qj w.heap.size w w'
theorem NatW(g o:Nat)(u:Int)(w:qg)(h:IntAt w g o u):qk qe 208 #[.pointer (qh ⟨g,o,qc⟩)] w (qeQ u.natAbs w):=by
 obtain⟨j,d⟩:=yx (w.alloc (.cells #[.slice qc 0 0] 88));have f:Ctx w [(w.heap.size,88,[.slice qc 0 0])] j:=by rw[d];exact(Ctx.nil w).new _ _ rfl
 have x:=vv (B.Words_ g o u j (h.below f.low));have k:=vv f;have y:=vv d;clear h f d;go_enter func208,ntmps208;go_wp2_with fail;rw[<- y.o];refine x.o.mono ?_;rintro e i ⟨A,n,c,rfl,l,m,p⟩;have b:=vv (k.o.step p);have q:=b.o.get 0 rfl |>.cell 0;have fz:=b.o.get 0 rfl |>.fz 0;have lt:=b.o.get 0 rfl |>.lt;simp only[k07] at q;have r:qi (Rd (i.setCell ⟨w.heap.size,0,qc⟩ (.slice A n c)) A n c (toL u.natAbs)):=vv (l.other _ _ _ (fun a e=>by have:=(m a e).2;have:=k.o.get 0 rfl |>.lt;omega));have s:qi (qj w.heap.size w (i.setCell ⟨w.heap.size,0,qc⟩ (.slice A n c))):=vv (b.o.low.setCell lr _);have t:(i.setCell ⟨w.heap.size,0,qc⟩ (.slice A n c)).cell? ⟨w.heap.size,0,qc⟩=qh (.slice A n c):=q0t q;clear p l m;go_wp2;exact qb (v:=q4w A n c) (by simp [results,results208,go_sem,t]) rfl ⟨A,n,c,rfl,r.o,s.o⟩
def OfP(neg:Bool)(N D:Nat)(w:qg)(e:Ending)(w':qg):Prop:=
 ∃A n c B m d,e=.returned (.tuple #[q2q neg A n c B m d,.int .i64 0])/\Rd w' A n c (toL N)/\Rd w' B m d (toL D)/\qj w.heap.size w w'
end R2
namespace Dlx
open Go Go.RowKit Go.Proofs.YthopehoklmgphaaGreatDoor Scn
def qbT(N:Nat):Nat:=if N=0 then 0 else N/2^tz N
def qa2(N:Nat)(x:Int):Int:=if N=0 then 0 else q2u (x+(tz N:Int))
def qbS(N:Nat)(neg:Bool):Bool:=if N=0 then qa else neg
def qdN(neg:Bool)(N:Nat)(x:Int)(w:qg)(e:Ending)(w':qg):Prop:=
 ∃A m c,e=.returned (.agg #[.bool (qbS N neg),.slice A m c,.int .i64 (qa2 N x)])/\Rd w' A m c (toL (qbT N))/\qj w.heap.size w w'
theorem qbL(h:∀d∈L,d<16):bl (A.wv L)<=4*L.length:=q1g (k01 (A.wv_lt h) (by rw[show(16:Nat)=2^4 from rfl,<- k18];exact lr))
theorem qbW(h:∀d∈L,d<16)(k:Nat):∀d∈L.take k,d<16:=fun d hd=>h d (List.mem_of_mem_take hd)
theorem Rd.els{A:Option Addr}(h:Rd w A n c xs)(hb:Blk w g t cs)(hcs:cs.all (fun v=>match v with|.int .u32 _=>qa|_=>qm)=qm)(hg:w.grownBy w' (qh g)):Rd w' A n c xs:=⟨h.len,h.le,h.sm,h.lim,fun hn=>by
  obtain⟨b,off,e,hlt,hc⟩:=h.cell hn;have hne:b≠g:=by rintro rfl;have a:=hc 0 hn;rw[hb.cell] at a;have:=k1W.1 hcs _ (k2D a);simp at this
  exact⟨b,off,e,k01 hlt hg.size,fun j hj=>(q0u hg (p:=⟨b,off+j,qc⟩) hlt hne).trans (hc j hj)⟩⟩
theorem Two(neg:Bool)(L:List Nat)(x:Int)(v:ql)(lo:Nat)(w:qg)(h:w.ownsRow lo 5 1 v L.length (u8s L))(hL:L.length<=131072)(h16:∀d∈L,d<16)(hx1:-2199023255552<=x)(hx2:x<=2199023255552)(hst:Std w):qk qe 139 #[.bool neg,v,.int .i64 x] w (qdN neg (A.wv L) x w):=by
 obtain⟨A0,cap,rfl⟩:=q0E h;obtain⟨w0,Q⟩:=yx ((w.alloc (.cells #[.bool qa,.slice qc 0 0,.int .i64 0] 90)).alloc (.cells #[.bool qa,.slice qc 0 0] 181));obtain⟨G,U⟩:=yx (w.heap.size+1);have a6:Ctx w [(w.heap.size,90,[.bool qa,.slice qc 0 0,.int .i64 0])] (w.alloc (.cells #[.bool qa,.slice qc 0 0,.int .i64 0] 90)):=(Ctx.nil w).new _ _ rfl;have F:Ctx w [(w.heap.size,90,[.bool qa,.slice qc 0 0,.int .i64 0])] w0:=by rw[Q];exact a6.step ((qf _ _).alloc lr _)
 have a7:qi (IntAt w0 G 0 0):=vv (by rw[Q,U];have:=IntAt.zero (w.alloc (.cells #[.bool qa,.slice qc 0 0,.int .i64 0] 90)) 181;simpa using this);have a2:qi (∀W,qj w.heap.size w W->∀i,i<L.length->∃g,A0=qh ⟨g,0,qc⟩/\W.cell? ⟨g,i,qc⟩=qh (.int .u8 ((nth L i:Nat):Int))/\g<W.heap.size):=vv (fun W a i hi=>by obtain⟨g,c,e,c8⟩:=q26 h (by omega);cases e;obtain⟨q1,q2,q3,q4⟩:=q27 h hi;exact⟨g,rfl,(a.cell (p:=⟨g,i,qc⟩) q4).trans q1,k01 q4 a.size⟩);have b7:=vv U;have HC:=vv F;have HW:=vv Q;have b8:=vv hst;have Y:=vv h16;have c9:(L.length:Int)<=131072:=by omega
 have b9:(w.alloc (.cells #[.bool qa,.slice qc 0 0,.int .i64 0] 90)).heap.size=G:=by rw[U];simp
 clear h F a6 Q hst h16 U;go_enter func139,ntmps139;go_wp2_with fail;rw[<- HW.o];clear b9;go_loopw [8] (fun i wr=>∃k:Nat,k<=L.length/\i=.int .i64 (k:Int)/\IntAt wr G 0 (A.wv (L.take k):Int)/\Ctx w [(w.heap.size,90,[.bool qa,.slice qc 0 0,.int .i64 0])] wr) (fun i _=>L.length-(intOf i).toNat)
 case atStart=>exact⟨0,k0d _,rfl,a7.o,HC.o⟩
 case round =>
  clear a7 HC;obtain⟨k,hk,rfl,hI,F⟩:=hrel;have l:=vv hI;have u:=vv F;have r:qi (w.heap.size<=G/\w.heap.size≠G):=vv (by have:=b7.o;omega);clear hI F;rcases k0M k L.length with R|R
  ·have a5:bl (A.wv (L.take k))<=524288:=by have:=qbL (qbW Y.o k);rw[k0l] at this;omega
   have a0:bl (A.wv (L.take k)*2^4)<=600000:=by have t:=q1Q (A.wv (L.take k));have h2:bl (A.wv (L.take k)*2^4)<=bl (A.wv (L.take k))+4:=q1g (by rw[k0q];exact k0B t (k1I (by decide)));omega
   have HL:=vv (B.Lsh G 0 G 0 4 _ _ wr l.o l.o (by unfold Sz;rw[k0b];omega) (by decide));have c0:qi (((A.wv (L.take k):Nat):Int)*2^4=((A.wv (L.take k)*2^4:Nat):Int)):=vv (by rw[k0a];rfl);rw[c0.o] at HL;obtain⟨M,q⟩:=yx (A.wv (L.take k)*2^4);rw[<- q] at HL a0;have a1:nth L k<16:=Y.o _ (q5m R);obtain⟨d,V⟩:=yx (nth L k);have c1:qi (A.wv (L.take (k+1))=M+d):=vv (by rw[A.wv_take_snoc L k R,q,V,k0h]);rw[<- V] at a1;have HN:=vv fun W=>B.NewInt (d:Int) W (by omega) (by omega)
   have HA:=vv fun(W:qg) (X:Nat) (t:IntAt W G 0 (M:Int)) (h2:IntAt W X 0 (d:Int))=>B.Add G 0 G 0 X 0 _ _ _ W t t h2 (by unfold Sz;rw[k0b];omega) (by unfold Sz;rw[k0b];have:bl d<=4:=q1g (by show d<16;omega);omega)
   have d0:(d:Int)<16:=by omega
   have d1:(k:Int)<(L.length:Int):=by omega
   have HD:=vv V;clear a5 a0 q a1 V;go_wp2_with fail;refine HL.o.mono ?_;rintro e H ⟨rfl,C,D⟩;have Z:=vv C;have S:=vv (u.o.write D.grown r.o.1 (fun z j=>by rw[k0j.1 j];exact r.o.2));obtain⟨g,rfl,r1,r2⟩:=a2.o H S.o.low k R;rw[<- HD.o] at r1;clear C D;go_wp2_with fail;refine(HN.o _).mono ?_;rintro e w2 ⟨X,rfl,d2,a8,a⟩;have E:=vv (S.o.step a);have c2:=vv (Z.o.below a);have c3:=vv a8;clear a a8;go_wp2_with fail;refine(HA.o _ X c2.o c3.o).mono ?_;rintro e w3 ⟨rfl,a9,b0⟩;have c4:qi (IntAt w3 G 0 (A.wv (L.take (k+1)):Int)):=vv (by rw[c1.o,k0X];exact a9);have c5:=vv (E.o.write b0.grown r.o.1 (fun z j=>by rw[k0j.1 j];exact r.o.2));clear a9 b0 r1 r2;go_wp2;go_roundw
   case rel=>exact⟨k+1,by omega,by go_num,c4.o,c5.o⟩
   case measure=>simp [intOf];omega
  ·obtain rfl:k=L.length:=by omega
   rw[k1m] at l;obtain⟨N,I⟩:=yx (A.wv L);have b1:bl N<=524288:=by rw[I];have:=qbL Y.o;omega
   rw[<- I] at l;have b2:=vv I;have T:=vv (B.Sign G 0 (N:Int) wr l.o);by_cases h0:N=0
   ·subst h0;rw[show(((0:Nat):Int)).sign=0 from rfl] at T;clear I b1;go_wp2_with fail;refine T.o.mono ?_;rintro e H ⟨rfl,rfl⟩;have J:=u.o.get 0 rfl;go_wp2_with (with_reducible refine q05 rfl 90 (.tmp 6) (.tmp 32) rfl w.heap.size [.bool qa,.slice qc 0 0,.int .i64 0] rfl rfl 90 _ J (by kernel_rfl) rfl rfl ?_);intro w8 a s;have f:=vv (u.o.put 0 rfl (fun i y hi b=>by match i,hi,b with|i+1,_,b=>cases b) lr a s);clear a s J;go_wp2;have K:=f.o.get 0 rfl |>.cell 0;have O:=f.o.get 0 rfl |>.cell 1;have P:=f.o.get 0 rfl |>.cell 2;simp only[k07,k0c] at K O P;exact qb (v:=.agg #[.bool qa,.slice qc 0 0,.int .i64 0]) (by simp [results,results139,go_sem,K,O,P]) rfl (by unfold qdN;rw[<- b2.o];exact⟨qc,0,0,rfl,Rd.nil _,f.o.low⟩)
   ·have b3:((N:Nat):Int).sign=1:=k0G (by omega);rw[b3] at T;have a3:=vv (B.TrailingZeroBits G 0 (N:Int) wr l.o (by omega) (u.o.std b8.o));rw[k0b] at a3;have b4:=q1j (n:=N) (by omega);obtain⟨z,j⟩:=yx (tz N);rw[<- j] at a3 b4;have d3:(z:Int)<=524288:=by omega
    have a4:=vv (B.Rsh G 0 G 0 z _ _ wr l.o l.o (by omega) (by omega));have HQ:qi (((N:Nat):Int)/2^z=((N/2^z:Nat):Int)):=vv (by rw[k1k,k0v];rfl);rw[HQ.o] at a4;obtain⟨M,q⟩:=yx (N/2^z);rw[<- q] at a4;have b5:=vv fun(W:qg) (t:IntAt W G 0 (M:Int))=>R2.NatW G 0 (M:Int) W t
    rw[k0b] at b5;have b6:=vv fun W=>qdL (x+(z:Int)) W
    obtain⟨y,b⟩:=yx (q2u (x+(z:Int)));rw[<- b] at b6;have HP:qi (qbS N neg=neg/\qa2 N x=y/\qbT N=M):=vv (by unfold qbS qa2 qbT;rw[if_neg h0,if_neg h0,if_neg h0,<- j,b,q];exact⟨rfl,rfl,rfl⟩);have d4:IntKind.i64.wrap (z:Int)=(z:Int):=by rw[IntKind.wrap_i64];omega
    clear I b1 h0 b3 b4 j q b;go_wp2_with fail;refine T.o.mono ?_;rintro e H ⟨rfl,rfl⟩;go_wp2_with fail;refine a3.o.mono ?_;rintro e H ⟨rfl,rfl⟩;go_wp2_with fail;refine a4.o.mono ?_;rintro e H ⟨rfl,C,D⟩;have Z:=vv C;have S:=vv (u.o.write D.grown r.o.1 (fun z j=>by rw[k0j.1 j];exact r.o.2));clear C D;go_wp2_with fail;refine(b5.o _ Z.o).mono ?_;rintro e w2 ⟨Aq,m,c,rfl,hr,a⟩;have E:=vv (S.o.step a);have c6:=vv hr;clear a hr;go_wp2_with fail;refine(b6.o _).mono ?_;rintro e w' ⟨rfl,rfl⟩;have J:=E.o.get 0 rfl;go_wp2_with (with_reducible refine q05 rfl 90 (.tmp 6) (.tmp 47) rfl w.heap.size [.bool neg,.slice Aq m c,.int .i64 y] rfl rfl 90 _ J (by kernel_rfl) rfl rfl ?_);intro w8 a s;have c7:=vv (Rd.els c6.o (E.o.get 0 rfl) rfl s);have f:=vv (E.o.put 0 rfl (fun i y hi b=>by match i,hi,b with|i+1,_,b=>cases b) lr a s);clear a s J;go_wp2;have K:=f.o.get 0 rfl |>.cell 0;have O:=f.o.get 0 rfl |>.cell 1;have P:=f.o.get 0 rfl |>.cell 2;simp only[k07,k0c] at K O P;refine qb (v:=.agg #[.bool neg,.slice Aq m c,.int .i64 y]) (by simp [results,results139,go_sem,K,O,P]) rfl ?_;unfold qdN;rw[<- b2.o,HP.o.1,HP.o.2.1,HP.o.2.2];exact⟨Aq,m,c,rfl,c7.o,f.o.low⟩
def qe2(b:Nat)(s:ByteArray)(x:Num)(u:St)(w:qg)(e:Ending)(w':qg):Prop:=
 ∃A m c,e=.returned (Scn.numV x A m c)/\Rd w' A m c (toL x.mant)/\TxAt w' b s u/\w.grownBy w' (qh b)
theorem q8O(m:Bool)(L:List Nat):-1099511627776<=q8m m L/\q8m m L<=1099511627776:=by
 have:=q9p L 0 (by decide);unfold q8m;cases m
 ·rw[if_neg (by decide)];omega
 ·rw[if_pos rfl];omega
theorem q5R(m:Bool)(L:List Nat)(z:Int)(h1:-1048576<=z)(h2:z<=1048576):q2u (q8m m L+z)=q2u ((if m then -(expo L 0:Int) else(expo L 0:Int))+z):=Lx.clip_two L m z h1 h2
theorem decimal(b:Nat)(s:ByteArray)(v:St)(neg:Bool)(w:qg)(h:TxAt w b s v)(hg:Bg w):qk qe 89 #[.pointer (qh ⟨b,0,qc⟩),.bool neg] w (qe2 b s (v.decimal neg).1 (v.decimal neg).2 w):=by
 obtain⟨L,k,u,hm⟩:∃L k u,v.mantissa ten=(L,k,u):=⟨_,_,_,rfl⟩;have b8:qi (∀W,TxAt W b s v->Bg W->qk qe 137 #[.pointer (qh ⟨b,0,qc⟩),.bool qa] W (qcQ b s L k u W)):=vv (fun W hT a=>by have:=parts qa b s v W hT a;rw[show DK qa=ten from rfl,hm] at this;exact this);have b1:=vv fun W hT=>q4R b s u 101 W hT (by decide) (by decide)
 rw[show(((101:UInt8).toNat:Nat):Int)=101 from rfl] at b1;obtain⟨I,F⟩:=yx (w.alloc (.cells #[.int .u8 0,.bool qa,.bool qa,.string ⟨#[]⟩,.int .i64 0,.bool qa,.slice qc 0 0,.int .i64 0,.int .u64 0] 92));have J:qj w.heap.size w I:=by rw[F];exact(qf _ _).alloc lr _
 have b9:qi (Blk I w.heap.size 92 q1o):=vv (by rw[F];exact Blk.made w _ q1o);have c0:=vv (h.below J h.lt);have K:=vv (q03 J (qh b));have p:qi (b≠w.heap.size/\b<w.heap.size):=vv (by have:=h.lt;omega);have HW:=vv F;have HM:=vv hm;have HH:=vv h;have HG:=vv hg;clear h hg hm F J;go_enter func89,ntmps89;go_wp2_with fail;rw[<- HW.o];go_wp2_with fail;refine(b8.o I c0.o (HG.o.text K.o HH.o)).mono ?_;rintro e w1 ⟨q,rfl,M,r,hG,b2,hk,b3⟩;have N:=vv r;have c1:=vv (q00 K.o hG);have c2:=vv (b9.o.grown hG (fun e=>p.o.1 (by injection e)));have a2:=vv M;have G:=vv b3;obtain⟨Aq,cap,hq⟩:=q0E M;have HQ:=vv hq;have c4:(k:Int)<=65536:=by omega
 have n:=vv (And.intro b2 hk);clear M r hG b3 hq b2 hk;go_wp2_with fail;refine(b1.o w1 N.o).mono ?_;rintro e w2 ⟨rfl,a⟩;have O:=vv (N.o.below a N.o.lt);have Q:=vv (q00 c1.o (q03 a _));have b4:=vv (c2.o.below a);have R:=vv (q0A a2.o fun g _ hs=>a.block g hs);clear a;cases hf:u.fold [101] with
 | false =>
  have t:qi (v.decimal neg=(⟨1,neg,neg,(Lx.decS L).map (fun d=>UInt8.ofNat (d+48)),if Lx.decS L=[] then 0 else q2u (0-k+(((Lx.decT L).length-(Lx.decS L).length:Nat):Int)),qa,0,0,0⟩,u)):=vv (Lx.spec_dec v neg HM.o (q9A u [101] hf) G.o);have f:=Lx.decV_same neg L k 0 0 (fun _ _ _=>rfl) n.o.1 n.o.2;obtain⟨y,hy⟩:∃y:Int,(0:Int)-(k:Int)=y:=⟨_,rfl⟩;obtain⟨X,x⟩:∃X:Int,X=if Lx.decS L=[] then 0 else q2u (0-k+(((Lx.decT L).length-(Lx.decS L).length:Nat):Int)):=⟨_,rfl⟩;rw[<- x] at f t;rw[hy] at f;have c5:-(k:Int)=y:=by omega
  have b5:-65536<=y:=by omega
  have b6:y<=0:=by omega
  have i:=vv (q9Y neg L y q _ w2 R.o n.o.1 G.o (by omega) (by omega));rw[f,HQ.o] at i;obtain⟨D,j⟩:=yx ((⟨((Lx.decS L).map (fun d=>UInt8.ofNat (d+48))).toArray⟩:ByteArray));rw[<- j] at i;have S:=vv j;rw[HQ.o];clear f x j hf;go_wp2_with fail;refine i.o.mono ?_;rintro e w3 ⟨rfl,a⟩;have T:=vv (O.o.below a O.o.lt);have U:=vv (q00 Q.o (q03 a _));have V:=vv (b4.o.below a);clear a;go_wp2_with (with_reducible refine q05 rfl 92 (.tmp 4) (.tmp 24) rfl w.heap.size [.int .u8 1,.bool neg,.bool neg,.string D,.int .i64 X,.bool qa,.slice qc 0 0,.int .i64 0,.int .u64 0] rfl rfl 92 q1o V.o (by kernel_rfl) rfl rfl ?_);intro w8 a l;have Y:=vv (T.o.grown l (fun k e=>by cases e;exact p.o.1.symm));have Z:=vv (q0e U.o l (fun k e=>by cases e;exact lr));have a3:=vv a;clear a l;go_wp2;obtain⟨k0,k1,k2,k3,k4,k5,k6,k7,k8⟩:=a3.o.num;rw[t.o];exact qb (v:=Scn.numV ⟨1,neg,neg,(Lx.decS L).map (fun d=>UInt8.ofNat (d+48)),X,qa,0,0,0⟩ qc 0 0) (by simp [results,results89,go_sem,k0,k1,k2,k3,k4,k5,k6,k7,k8,Scn.numV,S.o]) rfl ⟨qc,0,0,rfl,Rd.nil _,Y.o,Z.o⟩
 | true =>
  obtain⟨m,z,a4⟩:∃m z,(u.skip 1).minus=(m,z):=⟨_,_,rfl⟩;obtain⟨c,C,a5⟩:∃c C,z.must ten=(c,C):=⟨_,_,rfl⟩;have b7:qi (∀W,TxAt W b s u->Bg W->qk qe 138 #[.pointer (qh ⟨b,0,qc⟩)] W (TxP b s C (.int .i64 (q8m m c)) W)):=vv (fun W hT a=>by have:=q3k b s u W hT a (q4f hT hf).1;rw[a4] at this;dsimp only at this;rw[a5] at this;exact this);have a6:u.exponent [101]=(if m then -(expo c 0:Int) else(expo c 0:Int),C):=by rw[q9C u [101] hf];show((if(u.skip 1).minus.1 then -(expo ((u.skip 1).minus.2.must ten).1 0:Int) else(expo ((u.skip 1).minus.2.must ten).1 0:Int)),((u.skip 1).minus.2.must ten).2)=_;rw[a4];dsimp only;rw[a5]
  obtain⟨E,a7⟩:∃E:Int,E=if m then -(expo c 0:Int) else(expo c 0:Int):=⟨_,rfl⟩;rw[<- a7] at a6;have t:qi (v.decimal neg=(⟨1,neg,neg,(Lx.decS L).map (fun d=>UInt8.ofNat (d+48)),if Lx.decS L=[] then 0 else q2u (E-k+(((Lx.decT L).length-(Lx.decS L).length:Nat):Int)),qa,0,0,0⟩,C)):=vv (Lx.spec_dec v neg HM.o a6 G.o);obtain⟨P,hP⟩:=yx (q8m m c);have a8:=q8O m c;have f:=Lx.decV_same neg L k P E (fun z h1 h2=>by rw[hP,a7];exact q5R m c z h1 h2) n.o.1 n.o.2;rw[<- hP] at a8 b7;obtain⟨y,hy⟩:∃y:Int,P-(k:Int)=y:=⟨_,rfl⟩;obtain⟨X,x⟩:∃X:Int,X=if Lx.decS L=[] then 0 else q2u (E-k+(((Lx.decT L).length-(Lx.decS L).length:Nat):Int)):=⟨_,rfl⟩;rw[<- x] at f t;rw[hy] at f;have b5:-2199023255552<=y:=by omega
  have b6:y<=2199023255552:=by omega
  have i:=vv fun W hr=>q9Y neg L y q I.heap.size W hr n.o.1 G.o b5 b6
  rw[f] at i;obtain⟨D,j⟩:=yx ((⟨((Lx.decS L).map (fun d=>UInt8.ofNat (d+48))).toArray⟩:ByteArray));rw[<- j] at i;have S:=vv j;rw[HQ.o] at i R ⊢;have c3:=vv a8;clear f x j hf a4 a5 a6 a7 hP a8;go_wp2_with fail;refine(b7.o w2 O.o (HG.o.text Q.o HH.o)).mono ?_;rintro e w2b ⟨rfl,r,H⟩;have a1:=vv r;have a9:=vv (q00 Q.o H);have b0:=vv (b4.o.grown H (fun e=>p.o.1 (by injection e)));have a0:=vv (q0s R.o H (k01 p.o.2 K.o.size));obtain⟨c6,c7⟩:=c3.o;clear r H;go_wp2_with fail;refine(i.o _ a0.o).mono ?_;rintro e w3 ⟨rfl,a⟩;have T:=vv (a1.o.below a a1.o.lt);have U:=vv (q00 a9.o (q03 a _));have V:=vv (b0.o.below a);clear a;go_wp2_with (with_reducible refine q05 rfl 92 (.tmp 4) (.tmp 24) rfl w.heap.size [.int .u8 1,.bool neg,.bool neg,.string D,.int .i64 X,.bool qa,.slice qc 0 0,.int .i64 0,.int .u64 0] rfl rfl 92 q1o V.o (by kernel_rfl) rfl rfl ?_);intro w8 a l;have Y:=vv (T.o.grown l (fun k e=>by cases e;exact p.o.1.symm));have Z:=vv (q0e U.o l (fun k e=>by cases e;exact lr));have a3:=vv a;clear a l;go_wp2;obtain⟨k0,k1,k2,k3,k4,k5,k6,k7,k8⟩:=a3.o.num;rw[t.o];exact qb (v:=Scn.numV ⟨1,neg,neg,(Lx.decS L).map (fun d=>UInt8.ofNat (d+48)),X,qa,0,0,0⟩ qc 0 0) (by simp [results,results89,go_sem,k0,k1,k2,k3,k4,k5,k6,k7,k8,Scn.numV,S.o]) rfl ⟨qc,0,0,rfl,Rd.nil _,Y.o,Z.o⟩
theorem q6X(v:St)(neg:Bool){k:Nat}{u:St}{x:Int}{u2:St}(hm:v.mantissa sixteen=(L,k,u))(hx:u.exponent [112]=(x,u2)):v.hex neg=(⟨2,neg,qa,[],0,qbS (A.wv L) neg,qbT (A.wv L),qa2 (A.wv L) (x-4*k),0⟩,u2):=by
 have e:v.hex neg=(if A.wv L=0 then⟨2,neg,qa,[],0,qa,0,0,0⟩ else⟨2,neg,qa,[],0,neg,A.wv L/2^tz (A.wv L),q2u (x-4*k+tz (A.wv L)),0⟩,u2):=by unfold St.hex;rw[hm];dsimp only;rw[hx];rfl
 rw[e];unfold qbS qbT qa2;by_cases h:A.wv L=0
 ·rw[if_pos h,if_pos h,if_pos h,if_pos h]
 ·rw[if_neg h,if_neg h,if_neg h,if_neg h]
theorem qad(L:List Nat)(k:Nat)(P E:Int)(h:∀z:Int,-1048576<=z->z<=1048576->q2u (P+z)=q2u (E+z))(hL:L.length<=131072)(h16:∀d∈L,d<16)(hk:k<=65536):qa2 (A.wv L) (P-4*(k:Int))=qa2 (A.wv L) (E-4*(k:Int)):=by
 unfold qa2;by_cases h0:A.wv L=0
 ·rw[if_pos h0,if_pos h0]
 ·rw[if_neg h0,if_neg h0];have a:=q1j (n:=A.wv L) (by omega);have b:=qbL h16;have e:=h (-(4*(k:Int))+(tz (A.wv L):Int)) (by omega) (by omega);rw[show P-4*(k:Int)+(tz (A.wv L):Int)=P+(-(4*(k:Int))+(tz (A.wv L):Int)) by omega,e,show E+(-(4*(k:Int))+(tz (A.wv L):Int))=E-4*(k:Int)+(tz (A.wv L):Int) by omega]
theorem qak(b:Nat)(s:ByteArray)(v:St)(neg:Bool)(w:qg)(h:TxAt w b s v)(hg:Bg w):qk qe 87 #[.pointer (qh ⟨b,0,qc⟩),.bool neg] w (qe2 b s (v.hex neg).1 (v.hex neg).2 w):=by
 obtain⟨L,k,u,hm⟩:∃L k u,v.mantissa sixteen=(L,k,u):=⟨_,_,_,rfl⟩;have c4:qi (∀W,TxAt W b s v->Bg W->qk qe 137 #[.pointer (qh ⟨b,0,qc⟩),.bool qm] W (qcQ b s L k u W)):=vv (fun W hT a=>by have:=parts qm b s v W hT a;rw[show DK qm=sixteen from rfl,hm] at this;exact this);have b8:=vv fun W hT=>q4R b s u 112 W hT (by decide) (by decide)
 rw[show(((112:UInt8).toNat:Nat):Int)=112 from rfl] at b8;obtain⟨p,I⟩:=yx (w.alloc (.cells #[.int .u8 0,.bool qa,.bool qa,.string ⟨#[]⟩,.int .i64 0,.bool qa,.slice qc 0 0,.int .i64 0,.int .u64 0] 92));have U:qj w.heap.size w p:=by rw[I];exact(qf _ _).alloc lr _
 have c5:qi (Blk p w.heap.size 92 q1o):=vv (by rw[I];exact Blk.made w _ q1o);have c6:=vv (h.below U h.lt);have V:=vv (q03 U (qh b));have F:qi (b≠w.heap.size/\b<w.heap.size):=vv (by have:=h.lt;omega);have HW:=vv I;have HM:=vv hm;have Q:=vv h;have R:=vv hg;clear h hg hm I U;go_enter func87,ntmps87;go_wp2_with fail;rw[<- HW.o];go_wp2_with fail;refine(c4.o p c6.o (R.o.text V.o Q.o)).mono ?_;rintro e w1 ⟨q,rfl,Y,d,hG,b9,hk,c0⟩;have Z:=vv d;have c7:=vv (q00 V.o hG);have c8:=vv (c5.o.grown hG (fun e=>F.o.1 (by injection e)));have a3:=vv Y;have a4:=vv c0;obtain⟨Aq,cap,hq⟩:=q0E Y;have HQ:=vv hq;have d2:(k:Int)<=65536:=by omega
 have J:=vv (And.intro b9 hk);clear Y d hG c0 hq b9 hk;go_wp2_with fail;refine(b8.o w1 Z.o).mono ?_;rintro e w2 ⟨rfl,a⟩;have a5:=vv (Z.o.below a Z.o.lt);have K:=vv (q00 c7.o (q03 a _));have c1:=vv (c8.o.below a);have N:=vv (q0A a3.o fun g _ hs=>a.block g hs);clear a;cases hf:u.fold [112] with
 | false =>
  have D:=q9A u [112] hf;obtain⟨y,hy⟩:∃y:Int,(0:Int)-4*(k:Int)=y:=⟨_,rfl⟩;have f:=q6X v neg HM.o D;rw[hy] at f;obtain⟨S,d⟩:=yx (qbS (A.wv L) neg);obtain⟨M,n⟩:=yx (qbT (A.wv L));obtain⟨X,r⟩:=yx (qa2 (A.wv L) y);rw[<- d,<- n,<- r] at f;have HE:=vv f;have d3:-(4*(k:Int))=y:=by omega
  have c9:-262144<=y:=by omega
  have d0:y<=0:=by omega
  have H:qi (∀W,W.ownsRow p.heap.size 5 1 q L.length (u8s L)->Std W->qk qe 139 #[.bool neg,q,.int .i64 y] W fun e w'=>∃A m c,e=.returned (.agg #[.bool S,.slice A m c,.int .i64 X])/\Rd w' A m c (toL M)/\qj W.heap.size W w'):=vv (fun W l hs=>by have:=Two neg L y q p.heap.size W l J.o.1 a4.o (by omega) (by omega) hs;unfold qdN at this;rw[<- d,<- n,<- r] at this;exact this);rw[HQ.o] at H N ⊢;clear hf D f d n r;go_wp2_with fail;refine(H.o _ N.o (R.o.text K.o Q.o).std).mono ?_;rintro e w3 ⟨t,x,C,rfl,l,a⟩;have a6:=vv (a5.o.below a a5.o.lt);have a7:=vv (q00 K.o (q03 a _));have G:=vv (c1.o.below a);have a8:=vv l;clear a l;go_wp2_with (with_reducible refine q05 rfl 92 (.tmp 4) (.tmp 25) rfl w.heap.size [.int .u8 2,.bool neg,.bool qa,.string ⟨#[]⟩,.int .i64 0,.bool S,.slice t x C,.int .i64 X,.int .u64 0] rfl rfl 92 q1o G.o (by kernel_rfl) rfl rfl ?_);intro w8 a j;have a9:=vv (a6.o.grown j (fun k e=>by cases e;exact F.o.1.symm));have b0:=vv (q0e a7.o j (fun k e=>by cases e;exact lr));have b1:=vv (Rd.els a8.o G.o rfl j);have b2:=vv a;clear a j;go_wp2;obtain⟨k0,k1,k2,k3,k4,k5,k6,k7,k8⟩:=b2.o.num;rw[HE.o];exact qb (v:=Scn.numV ⟨2,neg,qa,[],0,S,M,X,0⟩ t x C) (by simp [results,results87,go_sem,k0,k1,k2,k3,k4,k5,k6,k7,k8,Scn.numV]) rfl ⟨t,x,C,rfl,b1.o,a9.o,b0.o⟩
 | true =>
  obtain⟨m,z,b3⟩:∃m z,(u.skip 1).minus=(m,z):=⟨_,_,rfl⟩;obtain⟨i,T,b4⟩:∃i T,z.must ten=(i,T):=⟨_,_,rfl⟩;have c3:qi (∀W,TxAt W b s u->Bg W->qk qe 138 #[.pointer (qh ⟨b,0,qc⟩)] W (TxP b s T (.int .i64 (q8m m i)) W)):=vv (fun W hT a=>by have:=q3k b s u W hT a (q4f hT hf).1;rw[b3] at this;dsimp only at this;rw[b4] at this;exact this);have D:u.exponent [112]=(if m then -(expo i 0:Int) else(expo i 0:Int),T):=by rw[q9C u [112] hf];show((if(u.skip 1).minus.1 then -(expo ((u.skip 1).minus.2.must ten).1 0:Int) else(expo ((u.skip 1).minus.2.must ten).1 0:Int)),((u.skip 1).minus.2.must ten).2)=_;rw[b3];dsimp only;rw[b4]
  obtain⟨E,b5⟩:∃E:Int,E=if m then -(expo i 0:Int) else(expo i 0:Int):=⟨_,rfl⟩;rw[<- b5] at D;have f:=q6X v neg HM.o D;obtain⟨P,hP⟩:=yx (q8m m i);have b6:=q8O m i;rw[<- qad L k P E (fun z h1 h2=>by rw[hP,b5];exact q5R m i z h1 h2) J.o.1 a4.o J.o.2] at f;rw[<- hP] at b6 c3;obtain⟨y,hy⟩:∃y:Int,P-4*(k:Int)=y:=⟨_,rfl⟩;rw[hy] at f;obtain⟨S,d⟩:=yx (qbS (A.wv L) neg);obtain⟨M,n⟩:=yx (qbT (A.wv L));obtain⟨X,r⟩:=yx (qa2 (A.wv L) y);rw[<- d,<- n,<- r] at f;have HE:=vv f;have c9:-2199023255552<=y:=by omega
  have d0:y<=2199023255552:=by omega
  have H:qi (∀W,W.ownsRow p.heap.size 5 1 q L.length (u8s L)->Std W->qk qe 139 #[.bool neg,q,.int .i64 y] W fun e w'=>∃A m c,e=.returned (.agg #[.bool S,.slice A m c,.int .i64 X])/\Rd w' A m c (toL M)/\qj W.heap.size W w'):=vv (fun W l hs=>by have:=Two neg L y q p.heap.size W l J.o.1 a4.o (by omega) (by omega) hs;unfold qdN at this;rw[<- d,<- n,<- r] at this;exact this);rw[HQ.o] at H N ⊢;have d1:=vv b6;clear hf b3 b4 D f b5 hP b6 d n r;go_wp2_with fail;refine(c3.o w2 a5.o (R.o.text K.o Q.o)).mono ?_;rintro e w2b ⟨rfl,d,O⟩;have a1:=vv d;have a2:=vv (q00 K.o O);have b7:=vv (c1.o.grown O (fun e=>F.o.1 (by injection e)));have a0:=vv (q0s N.o O (k01 F.o.2 V.o.size));obtain⟨d4,d5⟩:=d1.o;clear d O;go_wp2_with fail;refine(H.o _ a0.o (R.o.text a2.o Q.o).std).mono ?_;rintro e w3 ⟨t,x,C,rfl,l,a⟩;have a6:=vv (a1.o.below a a1.o.lt);have a7:=vv (q00 a2.o (q03 a _));have G:=vv (b7.o.below a);have a8:=vv l;clear a l;go_wp2_with (with_reducible refine q05 rfl 92 (.tmp 4) (.tmp 25) rfl w.heap.size [.int .u8 2,.bool neg,.bool qa,.string ⟨#[]⟩,.int .i64 0,.bool S,.slice t x C,.int .i64 X,.int .u64 0] rfl rfl 92 q1o G.o (by kernel_rfl) rfl rfl ?_);intro w8 a j;have a9:=vv (a6.o.grown j (fun k e=>by cases e;exact F.o.1.symm));have b0:=vv (q0e a7.o j (fun k e=>by cases e;exact lr));have b1:=vv (Rd.els a8.o G.o rfl j);have b2:=vv a;clear a j;go_wp2;obtain⟨k0,k1,k2,k3,k4,k5,k6,k7,k8⟩:=b2.o.num;rw[HE.o];exact qb (v:=Scn.numV ⟨2,neg,qa,[],0,S,M,X,0⟩ t x C) (by simp [results,results87,go_sem,k0,k1,k2,k3,k4,k5,k6,k7,k8,Scn.numV]) rfl ⟨t,x,C,rfl,b1.o,a9.o,b0.o⟩
theorem qd7:Wd ⟨#[48,120]⟩:=by
 have:∀k:Fin 2,(97<=((⟨#[48,120]⟩:ByteArray)[k.val]'k.isLt).toNat/\((⟨#[48,120]⟩:ByteArray)[k.val]'k.isLt).toNat<=122)\/((⟨#[48,120]⟩:ByteArray)[k.val]'k.isLt).toNat<65:=by decide
 exact fun k h=>this ⟨k,h⟩
theorem qd6:Wd ⟨#[105,110,102]⟩:=by
 have:∀k:Fin 3,(97<=((⟨#[105,110,102]⟩:ByteArray)[k.val]'k.isLt).toNat/\((⟨#[105,110,102]⟩:ByteArray)[k.val]'k.isLt).toNat<=122)\/((⟨#[105,110,102]⟩:ByteArray)[k.val]'k.isLt).toNat<65:=by decide
 exact fun k h=>this ⟨k,h⟩
theorem qd5:Wd ⟨#[110,97,110]⟩:=by
 have:∀k:Fin 3,(97<=((⟨#[110,97,110]⟩:ByteArray)[k.val]'k.isLt).toNat/\((⟨#[110,97,110]⟩:ByteArray)[k.val]'k.isLt).toNat<=122)\/((⟨#[110,97,110]⟩:ByteArray)[k.val]'k.isLt).toNat<65:=by decide
 exact fun k h=>this ⟨k,h⟩
theorem q6e:Wd ⟨#[105,110,102,105,110,105,116,121]⟩:=by
 have:∀k:Fin 8,(97<=((⟨#[105,110,102,105,110,105,116,121]⟩:ByteArray)[k.val]'k.isLt).toNat/\((⟨#[105,110,102,105,110,105,116,121]⟩:ByteArray)[k.val]'k.isLt).toNat<=122)\/((⟨#[105,110,102,105,110,105,116,121]⟩:ByteArray)[k.val]'k.isLt).toNat<65:=by decide
 exact fun k h=>this ⟨k,h⟩
def qfi(b:Nat)(s:ByteArray)(x:Num)(u:St)(w:qg)(e:Ending)(w':qg):Prop:=
 ∃(y:Num) (A:Option Addr) (m c:Nat),e=.returned (Scn.numV y A m c)/\TxAt w' b s u/\w.grownBy w' (qh b)/\(u.code=0->y=x/\Rd w' A m c (toL x.mant))
theorem q7P(v:St):v.minus.2.code=v.code:=by
 unfold St.minus;split
 ·rfl
 ·split
  ·rfl
  ·split<;>rfl
theorem number(b:Nat)(s:ByteArray)(v:St)(w:qg)(h:TxAt w b s v)(hg:Bg w)(hc:v.code=0):qk qe 59 #[.pointer (qh ⟨b,0,qc⟩)] w (qfi b s v.number.1 v.number.2 w):=by
 obtain⟨f,u,hm⟩:∃f u,v.minus=(f,u):=⟨_,_,rfl⟩;have Z:u.code=0:=by have:=q7P v;rw[hm,hc] at this;exact this
 have hN:v.number=(if pre u.rest [95] then(Num.none_,u.put 112) else
   if u.fold [48,120] then(u.skip 2).hex f else
   if 0<(ten u.rest).2\/pre u.rest [46]=qm then u.decimal f else
   if u.fold [105,110,102,105,110,105,116,121] then(⟨3,f,qa,[],0,qa,0,0,0⟩,u.skip 8) else
   if u.fold [105,110,102] then(⟨3,f,qa,[],0,qa,0,0,0⟩,u.skip 3) else
   if u.fold [110,97,110] then(⟨4,f,qa,[],0,qa,0,0,(u.skip 3).payload.1⟩,(u.skip 3).payload.2) else
   (Num.none_,u.fail 110)):=by
  unfold St.number;rw[hm]
 have e9:qi (∀W,TxAt W b s v->qk qe 83 #[.pointer (qh ⟨b,0,qc⟩)] W (TxP b s u (.bool f) W)):=vv (fun W hT=>by have:=sign b s v W hT;rw[hm] at this;exact this);have d7:=vv fun W hT=>q1Y b s u W hT
 have a4:=vv fun(p:ByteArray) (hp:Wd p) (hs:p.size<=65536) W hT=>qeV b s u p W hT Z hp hs
 have f0:=vv fun W hT c (ha:u.pos<=65537)=>qdJ b s u u.pos qa W hT c ha
 have d8:=vv fun W hT=>next b s u 46 W hT
 rw[show(((46:UInt8).toNat:Nat):Int)=46 from rfl] at d8;obtain⟨w0,b7⟩:=yx (w.alloc (.cells #[.int .u8 0,.bool qa,.bool qa,.string ⟨#[]⟩,.int .i64 0,.bool qa,.slice qc 0 0,.int .i64 0,.int .u64 0] 92));have c6:qj w.heap.size w w0:=by rw[b7];exact(qf _ _).alloc lr _
 have f1:qi (Blk w0 w.heap.size 92 q1o):=vv (by rw[b7];exact Blk.made w _ q1o);have f2:=vv (h.below c6 h.lt);have f3:=vv (q03 c6 (qh b));have i:qi (b≠w.heap.size/\b<w.heap.size):=vv (by have:=h.lt;omega);have HW:=vv b7;have T:=vv h;have V:=vv hg;have f4:=vv Z;have HN:=vv hN;have b4:=vv (q25 Z);have b5:qi (u.has [46]=pre u.rest [46]):=vv (has_on _ Z);clear h hg hm b7 c6 Z hN hc;go_enter func59,ntmps59;go_wp2_with fail;rw[<- HW.o];go_wp2_with fail;refine(e9.o w0 f2.o).mono ?_;rintro e w1 ⟨rfl,d,a⟩;have d9:=vv d;have e0:=vv (q00 f3.o a);have e1:=vv (f1.o.grown a (fun e=>i.o.1 (by injection e)));clear d a;cases h95:pre u.rest [95] with
 | true =>have x:qi (v.number=(Num.none_,u.put 112)):=vv (by rw[HN.o,if_pos h95]);have HU:=vv (d7.o w1 d9.o);rw[b4.o,h95,if_pos rfl] at HU;clear h95;go_wp2_with fail;refine(HU.o).mono ?_;rintro e w2 ⟨rfl,d,a⟩;have L:=vv d;have b8:=vv (q00 e0.o a);have c7:=vv (e1.o.grown a (fun e=>i.o.1 (by injection e)));clear d a;go_wp2_with (with_reducible refine q05 rfl 92 (.tmp 2) (.tmp 10) rfl w.heap.size [.int .u8 0,.bool qa,.bool qa,.string ⟨#[]⟩,.int .i64 0,.bool qa,.slice qc 0 0,.int .i64 0,.int .u64 0] rfl rfl 92 q1o c7.o (by kernel_rfl) rfl rfl ?_);intro S c g;have q:=vv (L.o.grown g (fun k e=>by cases e;exact i.o.1.symm));have r:=vv (q0e b8.o g (fun k e=>by cases e;exact lr));have t:=vv c;clear c g;go_wp2;obtain⟨y,z,C,D,E,F,G,H,I⟩:=t.o.num;rw[x.o];exact qb (v:=Scn.numV Num.none_ qc 0 0) (by simp [results,results59,go_sem,y,z,C,D,E,F,G,H,I,Scn.numV,Num.none_]) rfl ⟨Num.none_,qc,0,0,rfl,q.o,r.o,fun h=>absurd h (by show(112:Nat)≠0;decide)⟩
 | false =>
  have HU:=vv (d7.o w1 d9.o);rw[b4.o,h95,if_neg (by decide)] at HU;have c8:qi (v.number=(if u.fold [48,120] then(u.skip 2).hex f else
   if 0<(ten u.rest).2\/pre u.rest [46]=qm then u.decimal f else
   if u.fold [105,110,102,105,110,105,116,121] then(⟨3,f,qa,[],0,qa,0,0,0⟩,u.skip 8) else
   if u.fold [105,110,102] then(⟨3,f,qa,[],0,qa,0,0,0⟩,u.skip 3) else
   if u.fold [110,97,110] then(⟨4,f,qa,[],0,qa,0,0,(u.skip 3).payload.1⟩,(u.skip 3).payload.2) else
   (Num.none_,u.fail 110))):=vv (by rw[HN.o,if_neg (by rw[h95];decide)])
  clear h95 HN;go_wp2_with fail;refine(HU.o).mono ?_;rintro e w2 ⟨rfl,d,a⟩;have L:=vv d;have b8:=vv (q00 e0.o a);have c7:=vv (e1.o.grown a (fun e=>i.o.1 (by injection e)));clear d a;have c1:=L.o.c1;have kl:=L.o.lt;have b6:u.pos<=65537:=by have:=L.o.le;have:=L.o.sm;omega
  have a0:=vv (f0.o w2 L.o (V.o.text b8.o T.o) b6);rw[show drop s u.pos=u.rest from L.o.rest.symm,show DK qa=ten from rfl] at a0;obtain⟨dg,c9⟩:=yx (dgt ten u.rest);rw[<- c9] at a0;have e2:qi (dg<0↔(ten u.rest).2=0):=vv (by rw[c9];exact qcx);clear c9 b6;go_wp2_with fail;refine a0.o.mono ?_;rintro e w3 ⟨n,rfl,-,c⟩;have e3:=vv (L.o.below c L.o.lt);have e4:=vv (q00 b8.o (q03 c _));have e5:=vv (c7.o.below c);clear c c1 kl;cases hx:u.fold [48,120] with
  | true =>have a5:=vv (a4.o ⟨#[48,120]⟩ qd7 (by decide) w3 e3.o);rw[show(⟨#[48,120]⟩:ByteArray).data.toList=[48,120] from rfl,hx,if_pos rfl,show(⟨#[48,120]⟩:ByteArray).size=2 from rfl] at a5;obtain⟨X,U,J⟩:∃X U,(u.skip 2).hex f=(X,U):=⟨_,_,rfl⟩;have x:qi (v.number=(X,U)):=vv (by rw[c8.o,hx,if_pos rfl];exact J);have f5:qi (∀W,TxAt W b s (u.skip 2)->Bg W->qk qe 87 #[.pointer (qh ⟨b,0,qc⟩),.bool f] W (qe2 b s X U W)):=vv (fun W hT c=>by have:=qak b s (u.skip 2) f W hT c;rw[J] at this;exact this);clear hx J;go_wp2_with fail;refine(a5.o).mono ?_;rintro e w4 ⟨rfl,d,a⟩;have O:=vv d;have R:=vv (q00 e4.o a);have a6:=vv (e5.o.grown a (fun e=>i.o.1 (by injection e)));clear d a;go_wp2_with fail;refine(f5.o w4 O.o (V.o.text R.o T.o)).mono ?_;rintro e w7 ⟨j,l,m,P,Q,d,a⟩;rw[show Scn.numV X j l m=.agg #[.int .u8 (X.kind:Int),.bool X.neg,.bool X.dneg,.string ⟨X.digits.toArray⟩,.int .i64 X.exp,.bool X.hneg,.slice j l m,.int .i64 X.hexp,.int .u64 (X.payload:Int)] from rfl] at P;subst P;have N:=vv d;have M:=vv (q00 R.o a);have K:=vv (a6.o.grown a (fun e=>i.o.1 (by injection e)));have a7:=vv Q;clear d a Q;go_wp2_with (with_reducible refine q05 rfl 92 (.tmp 2) (.tmp 25) rfl w.heap.size [.int .u8 (X.kind:Int),.bool X.neg,.bool X.dneg,.string ⟨X.digits.toArray⟩,.int .i64 X.exp,.bool X.hneg,.slice j l m,.int .i64 X.hexp,.int .u64 (X.payload:Int)] rfl rfl 92 q1o K.o (by kernel_rfl) rfl rfl ?_);intro S c g;have q:=vv (N.o.grown g (fun k e=>by cases e;exact i.o.1.symm));have r:=vv (q0e M.o g (fun k e=>by cases e;exact lr));have a8:=vv (Rd.els a7.o K.o rfl g);have t:=vv c;clear c g;go_wp2;obtain⟨y,z,C,D,E,F,G,H,I⟩:=t.o.num;rw[x.o];exact qb (v:=Scn.numV X j l m) (by simp [results,results59,go_sem,y,z,C,D,E,F,G,H,I,Scn.numV,Num.none_]) rfl ⟨X,j,l,m,rfl,q.o,r.o,fun _=>⟨rfl,a8.o⟩⟩
  | false =>
   have a5:=vv (a4.o ⟨#[48,120]⟩ qd7 (by decide) w3 e3.o);rw[show(⟨#[48,120]⟩:ByteArray).data.toList=[48,120] from rfl,hx,if_neg (by decide)] at a5;have b9:qi (v.number=(if 0<(ten u.rest).2\/pre u.rest [46]=qm then u.decimal f else
    if u.fold [105,110,102,105,110,105,116,121] then(⟨3,f,qa,[],0,qa,0,0,0⟩,u.skip 8) else
    if u.fold [105,110,102] then(⟨3,f,qa,[],0,qa,0,0,0⟩,u.skip 3) else
    if u.fold [110,97,110] then(⟨4,f,qa,[],0,qa,0,0,(u.skip 3).payload.1⟩,(u.skip 3).payload.2) else
    (Num.none_,u.fail 110))):=vv (by rw[c8.o,hx,if_neg (by decide)])
   clear hx c8;go_wp2_with fail;refine(a5.o).mono ?_;rintro e w4 ⟨rfl,d,a⟩;have O:=vv d;have R:=vv (q00 e4.o a);have a6:=vv (e5.o.grown a (fun e=>i.o.1 (by injection e)));clear d a;have e6:qi (∀X U,u.decimal f=(X,U)->∀W,TxAt W b s u->Bg W->qk qe 89 #[.pointer (qh ⟨b,0,qc⟩),.bool f] W (qe2 b s X U W)):=vv (fun X U J W hT c=>by have:=decimal b s u f W hT c;rw[J] at this;exact this);by_cases hd:0<=dg
   ·have Y:0<(ten u.rest).2:=by
     have:¬(ten u.rest).2=0:=fun e=>by have:=e2.o.2 e;omega
     omega
    obtain⟨X,U,J⟩:∃X U,u.decimal f=(X,U):=⟨_,_,rfl⟩;have x:qi (v.number=(X,U)):=vv (by rw[b9.o,if_pos (.inl Y)];exact J);have d0:=vv (e6.o X U J);clear Y J;go_wp2_with fail;refine(d0.o w4 O.o (V.o.text R.o T.o)).mono ?_;rintro e w7 ⟨j,l,m,P,Q,d,a⟩;rw[show Scn.numV X j l m=.agg #[.int .u8 (X.kind:Int),.bool X.neg,.bool X.dneg,.string ⟨X.digits.toArray⟩,.int .i64 X.exp,.bool X.hneg,.slice j l m,.int .i64 X.hexp,.int .u64 (X.payload:Int)] from rfl] at P;subst P;have N:=vv d;have M:=vv (q00 R.o a);have K:=vv (a6.o.grown a (fun e=>i.o.1 (by injection e)));have a7:=vv Q;clear d a Q;go_wp2_with (with_reducible refine q05 rfl 92 (.tmp 2) (.tmp 35) rfl w.heap.size [.int .u8 (X.kind:Int),.bool X.neg,.bool X.dneg,.string ⟨X.digits.toArray⟩,.int .i64 X.exp,.bool X.hneg,.slice j l m,.int .i64 X.hexp,.int .u64 (X.payload:Int)] rfl rfl 92 q1o K.o (by kernel_rfl) rfl rfl ?_);intro S c g;have q:=vv (N.o.grown g (fun k e=>by cases e;exact i.o.1.symm));have r:=vv (q0e M.o g (fun k e=>by cases e;exact lr));have a8:=vv (Rd.els a7.o K.o rfl g);have t:=vv c;clear c g;go_wp2;obtain⟨y,z,C,D,E,F,G,H,I⟩:=t.o.num;rw[x.o];exact qb (v:=Scn.numV X j l m) (by simp [results,results59,go_sem,y,z,C,D,E,F,G,H,I,Scn.numV,Num.none_]) rfl ⟨X,j,l,m,rfl,q.o,r.o,fun _=>⟨rfl,a8.o⟩⟩
   ·have Y:(ten u.rest).2=0:=e2.o.1 (by omega);have c0:=vv (d8.o w4 O.o);have g1:dg<0:=by omega
    cases h46:pre u.rest [46] with
    | true =>rw[b5.o,h46] at c0;obtain⟨X,U,J⟩:∃X U,u.decimal f=(X,U):=⟨_,_,rfl⟩;have x:qi (v.number=(X,U)):=vv (by rw[b9.o,if_pos (.inr h46)];exact J);have d0:=vv (e6.o X U J);clear Y J h46;go_wp2_with fail;refine c0.o.mono ?_;rintro e w5 ⟨rfl,c⟩;have d1:=vv (O.o.below c O.o.lt);have a9:=vv (q00 R.o (q03 c _));have c3:=vv (a6.o.below c);clear c;go_wp2_with fail;refine(d0.o w5 d1.o (V.o.text a9.o T.o)).mono ?_;rintro e w7 ⟨j,l,m,P,Q,d,a⟩;rw[show Scn.numV X j l m=.agg #[.int .u8 (X.kind:Int),.bool X.neg,.bool X.dneg,.string ⟨X.digits.toArray⟩,.int .i64 X.exp,.bool X.hneg,.slice j l m,.int .i64 X.hexp,.int .u64 (X.payload:Int)] from rfl] at P;subst P;have N:=vv d;have M:=vv (q00 a9.o a);have K:=vv (c3.o.grown a (fun e=>i.o.1 (by injection e)));have a7:=vv Q;clear d a Q;go_wp2_with (with_reducible refine q05 rfl 92 (.tmp 2) (.tmp 35) rfl w.heap.size [.int .u8 (X.kind:Int),.bool X.neg,.bool X.dneg,.string ⟨X.digits.toArray⟩,.int .i64 X.exp,.bool X.hneg,.slice j l m,.int .i64 X.hexp,.int .u64 (X.payload:Int)] rfl rfl 92 q1o K.o (by kernel_rfl) rfl rfl ?_);intro S c g;have q:=vv (N.o.grown g (fun k e=>by cases e;exact i.o.1.symm));have r:=vv (q0e M.o g (fun k e=>by cases e;exact lr));have a8:=vv (Rd.els a7.o K.o rfl g);have t:=vv c;clear c g;go_wp2;obtain⟨y,z,C,D,E,F,G,H,I⟩:=t.o.num;rw[x.o];exact qb (v:=Scn.numV X j l m) (by simp [results,results59,go_sem,y,z,C,D,E,F,G,H,I,Scn.numV,Num.none_]) rfl ⟨X,j,l,m,rfl,q.o,r.o,fun _=>⟨rfl,a8.o⟩⟩
    | false =>
     rw[b5.o,h46] at c0;have d2:qi (v.number=(if u.fold [105,110,102,105,110,105,116,121] then(⟨3,f,qa,[],0,qa,0,0,0⟩,u.skip 8) else
      if u.fold [105,110,102] then(⟨3,f,qa,[],0,qa,0,0,0⟩,u.skip 3) else
      if u.fold [110,97,110] then(⟨4,f,qa,[],0,qa,0,0,(u.skip 3).payload.1⟩,(u.skip 3).payload.2) else
      (Num.none_,u.fail 110))):=vv (by rw[b9.o,if_neg (by rw[Y,h46];simp)])
     clear Y h46 b9;go_wp2_with fail;refine c0.o.mono ?_;rintro e w5 ⟨rfl,c⟩;have d1:=vv (O.o.below c O.o.lt);have a9:=vv (q00 R.o (q03 c _));have c3:=vv (a6.o.below c);have b0:=vv (a4.o ⟨#[105,110,102,105,110,105,116,121]⟩ q6e (by decide) w5 d1.o);rw[show(⟨#[105,110,102,105,110,105,116,121]⟩:ByteArray).data.toList=[105,110,102,105,110,105,116,121] from rfl,show(⟨#[105,110,102,105,110,105,116,121]⟩:ByteArray).size=8 from rfl] at b0;clear c;cases hi:u.fold [105,110,102,105,110,105,116,121] with
     | true =>rw[hi,if_pos rfl] at b0;have x:qi (v.number=(⟨3,f,qa,[],0,qa,0,0,0⟩,u.skip 8)):=vv (by rw[d2.o,hi,if_pos rfl]);clear hi;go_wp2_with fail;refine(b0.o).mono ?_;rintro e w6 ⟨rfl,d,a⟩;have d3:=vv d;have c4:=vv (q00 a9.o a);have c5:=vv (c3.o.grown a (fun e=>i.o.1 (by injection e)));clear d a;go_wp2_with (with_reducible refine q05 rfl 92 (.tmp 2) (.tmp 44) rfl w.heap.size [.int .u8 3,.bool f,.bool qa,.string ⟨#[]⟩,.int .i64 0,.bool qa,.slice qc 0 0,.int .i64 0,.int .u64 0] rfl rfl 92 q1o c5.o (by kernel_rfl) rfl rfl ?_);intro S c g;have q:=vv (d3.o.grown g (fun k e=>by cases e;exact i.o.1.symm));have r:=vv (q0e c4.o g (fun k e=>by cases e;exact lr));have t:=vv c;clear c g;go_wp2;obtain⟨y,z,C,D,E,F,G,H,I⟩:=t.o.num;rw[x.o];exact qb (v:=Scn.numV ⟨3,f,qa,[],0,qa,0,0,0⟩ qc 0 0) (by simp [results,results59,go_sem,y,z,C,D,E,F,G,H,I,Scn.numV,Num.none_]) rfl ⟨⟨3,f,qa,[],0,qa,0,0,0⟩,qc,0,0,rfl,q.o,r.o,fun _=>⟨rfl,Rd.nil _⟩⟩
     | false =>
      rw[hi,if_neg (by decide)] at b0;have d4:qi (v.number=(if u.fold [105,110,102] then(⟨3,f,qa,[],0,qa,0,0,0⟩,u.skip 3) else
       if u.fold [110,97,110] then(⟨4,f,qa,[],0,qa,0,0,(u.skip 3).payload.1⟩,(u.skip 3).payload.2) else
       (Num.none_,u.fail 110))):=vv (by rw[d2.o,hi,if_neg (by decide)])
      clear hi d2;go_wp2_with fail;refine(b0.o).mono ?_;rintro e w6 ⟨rfl,d,a⟩;have d3:=vv d;have c4:=vv (q00 a9.o a);have c5:=vv (c3.o.grown a (fun e=>i.o.1 (by injection e)));clear d a;have b1:=vv (a4.o ⟨#[105,110,102]⟩ qd6 (by decide) w6 d3.o);rw[show(⟨#[105,110,102]⟩:ByteArray).data.toList=[105,110,102] from rfl,show(⟨#[105,110,102]⟩:ByteArray).size=3 from rfl] at b1;cases hj:u.fold [105,110,102] with
      | true =>rw[hj,if_pos rfl] at b1;have x:qi (v.number=(⟨3,f,qa,[],0,qa,0,0,0⟩,u.skip 3)):=vv (by rw[d4.o,hj,if_pos rfl]);clear hj;go_wp2_with fail;refine(b1.o).mono ?_;rintro e w7 ⟨rfl,d,a⟩;have N:=vv d;have M:=vv (q00 c4.o a);have K:=vv (c5.o.grown a (fun e=>i.o.1 (by injection e)));clear d a;go_wp2_with (with_reducible refine q05 rfl 92 (.tmp 2) (.tmp 44) rfl w.heap.size [.int .u8 3,.bool f,.bool qa,.string ⟨#[]⟩,.int .i64 0,.bool qa,.slice qc 0 0,.int .i64 0,.int .u64 0] rfl rfl 92 q1o K.o (by kernel_rfl) rfl rfl ?_);intro S c g;have q:=vv (N.o.grown g (fun k e=>by cases e;exact i.o.1.symm));have r:=vv (q0e M.o g (fun k e=>by cases e;exact lr));have t:=vv c;clear c g;go_wp2;obtain⟨y,z,C,D,E,F,G,H,I⟩:=t.o.num;rw[x.o];exact qb (v:=Scn.numV ⟨3,f,qa,[],0,qa,0,0,0⟩ qc 0 0) (by simp [results,results59,go_sem,y,z,C,D,E,F,G,H,I,Scn.numV,Num.none_]) rfl ⟨⟨3,f,qa,[],0,qa,0,0,0⟩,qc,0,0,rfl,q.o,r.o,fun _=>⟨rfl,Rd.nil _⟩⟩
      | false =>
       rw[hj,if_neg (by decide)] at b1;have e7:qi (v.number=(if u.fold [110,97,110] then(⟨4,f,qa,[],0,qa,0,0,(u.skip 3).payload.1⟩,(u.skip 3).payload.2) else
        (Num.none_,u.fail 110))):=vv (by rw[d4.o,hj,if_neg (by decide)])
       clear hj d4;go_wp2_with fail;refine(b1.o).mono ?_;rintro e w7 ⟨rfl,d,a⟩;have N:=vv d;have M:=vv (q00 c4.o a);have K:=vv (c5.o.grown a (fun e=>i.o.1 (by injection e)));clear d a;have b2:=vv (a4.o ⟨#[110,97,110]⟩ qd5 (by decide) w7 N.o);rw[show(⟨#[110,97,110]⟩:ByteArray).data.toList=[110,97,110] from rfl,show(⟨#[110,97,110]⟩:ByteArray).size=3 from rfl] at b2;cases hk:u.fold [110,97,110] with
       | true =>
        rw[hk,if_pos rfl] at b2;have x:qi (v.number=(⟨4,f,qa,[],0,qa,0,0,(u.skip 3).payload.1⟩,(u.skip 3).payload.2)):=vv (by rw[e7.o,hk,if_pos rfl]);have f6:=vv fun W hT c=>payload b s (u.skip 3) W hT c f4.o
        clear hk;go_wp2_with fail;refine(b2.o).mono ?_;rintro e w9 ⟨rfl,d,a⟩;have d5:=vv d;have b3:=vv (q00 M.o a);have d6:=vv (K.o.grown a (fun e=>i.o.1 (by injection e)));clear d a;go_wp2_with fail;refine(f6.o w9 d5.o (V.o.text b3.o T.o)).mono ?_;rintro e f7 ⟨n2,rfl,d,a,f8,e8⟩;have a1:=vv d;have a2:=vv (q00 b3.o a);have a3:=vv (d6.o.grown a (fun e=>i.o.1 (by injection e)));have f9:=vv e8;clear d a e8 f8;go_wp2_with (with_reducible refine q05 rfl 92 (.tmp 2) (.tmp 51) rfl w.heap.size [.int .u8 4,.bool f,.bool qa,.string ⟨#[]⟩,.int .i64 0,.bool qa,.slice qc 0 0,.int .i64 0,.int .u64 (n2:Int)] rfl rfl 92 q1o a3.o (by kernel_rfl) rfl rfl ?_);intro S c g;have q:=vv (a1.o.grown g (fun k e=>by cases e;exact i.o.1.symm));have r:=vv (q0e a2.o g (fun k e=>by cases e;exact lr));have t:=vv c;clear c g;go_wp2;obtain⟨y,z,C,D,E,F,G,H,I⟩:=t.o.num;rw[x.o];exact qb (v:=Scn.numV ⟨4,f,qa,[],0,qa,0,0,n2⟩ qc 0 0) (by simp [results,results59,go_sem,y,z,C,D,E,F,G,H,I,Scn.numV,Num.none_]) rfl ⟨⟨4,f,qa,[],0,qa,0,0,n2⟩,qc,0,0,rfl,q.o,r.o,fun h=>⟨by rw[f9.o h],Rd.nil _⟩⟩
       | false =>
        rw[hk,if_neg (by decide)] at b2;have x:qi (v.number=(Num.none_,u.fail 110)):=vv (by rw[e7.o,hk,if_neg (by decide)]);have g0:=vv fun W hT c=>bad b s u 110 W hT c (by decide)
        clear hk;go_wp2_with fail;refine(b2.o).mono ?_;rintro e w9 ⟨rfl,d,a⟩;have d5:=vv d;have b3:=vv (q00 M.o a);have d6:=vv (K.o.grown a (fun e=>i.o.1 (by injection e)));clear d a;go_wp2_with fail;refine(g0.o w9 d5.o (V.o.text b3.o T.o)).mono ?_;rintro e f7 ⟨rfl,d,a⟩;have a1:=vv d;have a2:=vv (q00 b3.o a);have a3:=vv (d6.o.grown a (fun e=>i.o.1 (by injection e)));clear d a;go_wp2_with (with_reducible refine q05 rfl 92 (.tmp 2) (.tmp 54) rfl w.heap.size [.int .u8 0,.bool qa,.bool qa,.string ⟨#[]⟩,.int .i64 0,.bool qa,.slice qc 0 0,.int .i64 0,.int .u64 0] rfl rfl 92 q1o a3.o (by kernel_rfl) rfl rfl ?_);intro S c g;have q:=vv (a1.o.grown g (fun k e=>by cases e;exact i.o.1.symm));have r:=vv (q0e a2.o g (fun k e=>by cases e;exact lr));have t:=vv c;clear c g;go_wp2;obtain⟨y,z,C,D,E,F,G,H,I⟩:=t.o.num;rw[x.o];exact qb (v:=Scn.numV Num.none_ qc 0 0) (by simp [results,results59,go_sem,y,z,C,D,E,F,G,H,I,Scn.numV,Num.none_]) rfl ⟨Num.none_,qc,0,0,rfl,q.o,r.o,fun h=>absurd h (q9x (by decide) _)⟩
def qen(r:Num × Nat × Nat)(w:qg)(e:Ending)(w':qg):Prop:=
 ∃(y:Num) (A:Option Addr) (m c:Nat),e=.returned (.tuple #[Scn.numV y A m c,.agg #[.int .i64 (r.2.1:Int),.int .i64 (r.2.2:Int)]])/\qj w.heap.size w w'/\(r.2.1=0->y=r.1/\Rd w' A m c (toL r.1.mant))
theorem q47{bs:List q8l}{a b:Nat}{u:TypeId}{l m:List ql}(h:bs=[(b,u,m),(a,t,l)])(hab:a≠b):(∀j x,j≠1->bs[j]?=qh x->x.1≠a)/\(∀j x,j≠0->bs[j]?=qh x->x.1≠b):=by
 subst h;constructor
 ·intro j x c hx;rcases j with _|_|j
  ·cases hx;exact fun e=>hab e.symm
  ·exact absurd rfl c
  ·cases hx
 ·intro j x c hx;rcases j with _|_|j
  ·exact absurd rfl c
  ·cases hx;exact hab
  ·cases hx
theorem Read(s:ByteArray)(w:qg)(hg:Bg w):qk qe 47 #[.string s] w (qen (Scn.read s) w):=by
 obtain⟨w0,T⟩:=yx ((w.alloc (.cells #[.int .u8 0,.bool qa,.bool qa,.string ⟨#[]⟩,.int .i64 0,.bool qa,.slice qc 0 0,.int .i64 0,.int .u64 0] 92)).alloc (.cells #[.int .i64 0,.int .i64 0] 80));have hC:Ctx w [(w.heap.size+1,80,[.int .i64 0,.int .i64 0]),(w.heap.size,92,q1o)] w0:=by rw[T];exact((Ctx.nil w).new _ _ rfl).new _ _ (by simp)
 have a2:qi (∀(m l:List ql),∀j x,j≠1->[(w.heap.size+1,80,m),(w.heap.size,92,l)][j]?=qh x->x.1≠w.heap.size):=vv (fun m l=>(q47 (bs:=[(w.heap.size+1,80,m),(w.heap.size,92,l)]) rfl (by omega)).1);have a3:qi (∀(m l:List ql),∀j x,j≠0->[(w.heap.size+1,80,m),(w.heap.size,92,l)][j]?=qh x->x.1≠w.heap.size+1):=vv (fun m l=>(q47 (bs:=[(w.heap.size+1,80,m),(w.heap.size,92,l)]) rfl (by omega)).2);have c7:(w.alloc (.cells #[.int .u8 0,.bool qa,.bool qa,.string ⟨#[]⟩,.int .i64 0,.bool qa,.slice qc 0 0,.int .i64 0,.int .u64 0] 92)).heap.size=w.heap.size+1:=by simp
 have HC:=vv hC;have HW:=vv T;have HG:=vv hg;by_cases hs:65536<s.size
 ·have H:qi (Scn.read s=(Num.none_,3,0)):=vv (by unfold Scn.read;rw[if_pos hs]);have c8:(65536:Int)<(s.size:Int):=by omega
  clear hs hC T hg;have f:=HC.o.get 1 rfl;have k:=HC.o.get 0 rfl;go_enter func47,ntmps47;go_wp2_with (first|rw[<- HW.o]|with_reducible refine q05 rfl 92 (.tmp 2) (.tmp 9) rfl w.heap.size [.int .u8 0,.bool qa,.bool qa,.string ⟨#[]⟩,.int .i64 0,.bool qa,.slice qc 0 0,.int .i64 0,.int .u64 0] rfl rfl 92 _ f (by kernel_rfl) rfl rfl ?_);intro w8 a b;have g:=k.grown b (fun e=>by injection e with e;omega);have E:=vv (HC.o.put 1 rfl (a2.o _ _) lr a b);clear a b f k;go_wp2_with (with_reducible refine q05 rfl 80 (.tmp 3) (.tmp 10) rfl (w.heap.size+1) [.int .i64 3,.int .i64 0] rfl rfl 80 _ g (by kernel_rfl) rfl rfl ?_);intro w9 a i;have c:=vv (E.o.put 0 rfl (a3.o _ _) (k1s _) a i);clear a i g;go_wp2;have n:=c.o.get 0 rfl;have I:=c.o.get 1 rfl;have r:=n.cell 0;have t:=n.cell 1;simp only[k07,k0c] at r t;obtain⟨J,L,M,N,O,P,Q,R,S⟩:=Blk.num I;rw[H.o];exact qb (v:=.tuple #[Scn.numV Num.none_ qc 0 0,.agg #[.int .i64 3,.int .i64 0]]) (by simp [results,results47,go_sem,r,t,J,L,M,N,O,P,Q,R,S,Scn.numV,Num.none_]) rfl ⟨Num.none_,qc,0,0,rfl,c.o.low,fun h=>absurd h (by decide)⟩
 obtain⟨X,U,b3⟩:∃X U,(St.mk s 0 0).number=(X,U):=⟨_,_,rfl⟩;have hE:Scn.read s=if(if U.code=0/\U.rest.size≠0 then U.fail 113 else U).code=0 then(X,0,0) else(Num.none_,(if U.code=0/\U.rest.size≠0 then U.fail 113 else U).code,(if U.code=0/\U.rest.size≠0 then U.fail 113 else U).pos):=by unfold Scn.read;rw[if_neg hs,b3]
 have c8:(s.size:Int)<=65536:=by omega
 obtain⟨G,hG⟩:=yx (w0.heap.size);obtain⟨w1,a9⟩:=yx (w0.alloc (.cells #[.string s,.int .i64 0,.int .i64 0] 137));have b4:Ctx w [(w.heap.size+1,80,[.int .i64 0,.int .i64 0]),(w.heap.size,92,q1o)] w1:=by rw[a9];exact hC.step ((qf _ _).alloc lr _)
 have c9:qi (TxAt w1 G s ⟨s,0,0⟩):=vv (by rw[a9,hG];exact TxAt.made w0 s _ (by omega));have D:qi (w.heap.size+2<=G):=vv (by rw[hG,T];simp);have c0:=vv (number G s ⟨s,0,0⟩ w1 c9.o (hg.below b4.low) rfl);rw[b3] at c0;have d3:=vv b4;have d4:=vv a9;have d5:qi (w.heap.size+1+1=G):=vv (by rw[hG,T];simp);have b5:=vv hE;have c3:qi (∀(m l:List ql),∀z∈[(w.heap.size+1,80,m),(w.heap.size,92,l)],z.1≠G):=vv (fun m l z hz=>by
  have:=D.o;rcases k1E.1 hz with rfl|hz
  ·show w.heap.size+1≠G;omega
  ·rw[k0j.1 hz];show w.heap.size≠G;omega)
 clear hs hC T hg b3 hE b4 a9 hG;go_enter func47,ntmps47;go_wp2_with fail;rw[<- HW.o];clear c7;go_wp2_with fail;rw[<- d4.o,d5.o];refine c0.o.mono ?_;rintro e w2 ⟨Y,u,y,C,c4,hS,a6,hv⟩;rw[show Scn.numV Y u y C=.agg #[.int .u8 (Y.kind:Int),.bool Y.neg,.bool Y.dneg,.string ⟨Y.digits.toArray⟩,.int .i64 Y.exp,.bool Y.hneg,.slice u y C,.int .i64 Y.hexp,.int .u64 (Y.payload:Int)] from rfl] at c4;subst c4;have b6:=vv hS;have d6:=vv (d3.o.write a6 (by have:=D.o;omega) (c3.o _ _));have HV:=vv hv;clear hS a6 hv;obtain⟨q,hq⟩:=yx (w2.heap.size);obtain⟨w3,b0⟩:=yx (w2.alloc (.cells #[.int .u8 (Y.kind:Int),.bool Y.neg,.bool Y.dneg,.string ⟨Y.digits.toArray⟩,.int .i64 Y.exp,.bool Y.hneg,.slice u y C,.int .i64 Y.hexp,.int .u64 (Y.payload:Int)] 92));have b1:qj w2.heap.size w2 w3:=by rw[b0];exact(qf _ _).alloc lr _
 have d7:qi (Blk w3 q 92 [.int .u8 (Y.kind:Int),.bool Y.neg,.bool Y.dneg,.string ⟨Y.digits.toArray⟩,.int .i64 Y.exp,.bool Y.hneg,.slice u y C,.int .i64 Y.hexp,.int .u64 (Y.payload:Int)]):=vv (by rw[b0,hq];exact Blk.made w2 _ [.int .u8 (Y.kind:Int),.bool Y.neg,.bool Y.dneg,.string ⟨Y.digits.toArray⟩,.int .i64 Y.exp,.bool Y.hneg,.slice u y C,.int .i64 Y.hexp,.int .u64 (Y.payload:Int)]);have W:=vv (b6.o.below b1 b6.o.lt);have Z:=vv (d6.o.step b1);have d8:qi (U.code=0->Y=X/\Rd w3 u y C (toL X.mant)):=vv (fun h=>⟨(HV.o h).1,(HV.o h).2.below b1 rfl⟩);have e4:qi (q≠G/\w.heap.size<q/\w.heap.size+1<q):=vv (by have:=b6.o.lt;have:=D.o;omega);have b7:=vv b0;have e5:w2.heap.size=q:=hq.symm;clear b1 b0 hq;have c1:=W.o.c1;have a5:=W.o.c2;have kl:=W.o.lt;have a0:=W.o.left;have a4:=W.o.le;by_cases hc:U.code=0
 ·have d0:((U.code:Int)==0)=qm:=by rw[hc];rfl
  have d1:((U.code:Int) != 0)=qa:=by rw[hc];rfl
  by_cases hr:U.rest.size=0
  ·have H:qi (Scn.read s=(X,0,0)):=vv (by have a7:(if U.code=0/\U.rest.size≠0 then U.fail 113 else U)=U:=if_neg (fun h=>h.2 hr);rw[b5.o,a7,if_pos hc]);have c5:=vv (d8.o hc);have d9:(s.size:Int)<=(U.pos:Int):=by omega
   clear hr hc a0 a4;have f:=Z.o.get 1 rfl;have k:=Z.o.get 0 rfl;go_wp2_with (first|rw[<- b7.o]|with_reducible refine q0O rfl 92 (.tmp 5) rfl q rfl 92 _ _ d7.o underlying92 rfl (by kernel_rfl) ?_|with_reducible refine q05 rfl 92 (.tmp 2) (.tmp 47) rfl w.heap.size [.int .u8 (Y.kind:Int),.bool Y.neg,.bool Y.dneg,.string ⟨Y.digits.toArray⟩,.int .i64 Y.exp,.bool Y.hneg,.slice u y C,.int .i64 Y.hexp,.int .u64 (Y.payload:Int)] rfl rfl 92 _ f (by kernel_rfl) rfl rfl ?_);intro w8 a b;have g:=k.grown b (fun e=>by injection e with e;omega);have E:=vv (Z.o.put 1 rfl (a2.o _ _) lr a b);have e0:=vv (Rd.els c5.o.2 f rfl b);clear a b f k;go_wp2_with (with_reducible refine q05 rfl 80 (.tmp 3) (.tmp 48) rfl (w.heap.size+1) [.int .i64 0,.int .i64 0] rfl rfl 80 _ g (by kernel_rfl) rfl rfl ?_);intro w9 a i;have c:=vv (E.o.put 0 rfl (a3.o _ _) (k1s _) a i);have e1:=vv (Rd.els e0.o g rfl i);clear a i g;go_wp2;have n:=c.o.get 0 rfl;have I:=c.o.get 1 rfl;have r:=n.cell 0;have t:=n.cell 1;simp only[k07,k0c] at r t;obtain⟨J,L,M,N,O,P,Q,R,S⟩:=Blk.num I;rw[H.o];exact qb (v:=.tuple #[Scn.numV Y u y C,.agg #[.int .i64 0,.int .i64 0]]) (by simp [results,results47,go_sem,r,t,J,L,M,N,O,P,Q,R,S,Scn.numV,Num.none_]) rfl ⟨Y,u,y,C,rfl,c.o.low,fun _=>⟨c5.o.1,e1.o⟩⟩
  ·obtain⟨V,hV⟩:=yx (U.fail 113);have b8:V.code≠0:=by rw[hV];exact q9x (by decide) U
   have H:qi (Scn.read s=(Num.none_,V.code,V.pos)):=vv (by
    have a7:(if U.code=0/\U.rest.size≠0 then U.fail 113 else U)=V:=by rw[if_pos ⟨hc,hr⟩,hV]
    rw[b5.o,a7,if_neg b8])
   have d9:(U.pos:Int)<(s.size:Int):=by omega
   have c6:=vv (bad G s U 113 w3 W.o (HG.o.below Z.o.low) (by decide));rw[<- hV] at c6;have b2:=vv b8;clear hr hc a0 a4 hV b8;go_wp2_with (first|rw[<- b7.o]|fail);refine c6.o.mono ?_;rintro e w4 ⟨rfl,hS,a6⟩;have b9:=vv hS;have e2:=vv (Z.o.write a6 (by have:=D.o;omega) (c3.o _ _));clear hS a6 c1 a5 kl;have c1:=b9.o.c1;have a5:=b9.o.c2;have kl:=b9.o.lt;have d2:((V.code:Int) != 0)=qm:=by rw[k1r];have:=b2.o;omega
   go_wp2_with fail;refine q02 (fun w'=>w'.cell? ⟨G,1,qc⟩=qh (.int .i64 (V.pos:Int))/\w'.cell? ⟨G,2,qc⟩=qh (.int .i64 (V.code:Int))) 11
    (.still 0 (.still 1 (.still 2 (.still 3 (.still 4 (.still 5 (.still 6 (.still 7 (.still 8 (.still 9 (.one 10 .done))))))))))) (by kernel_rfl) (by kernel_rfl) (fun _ _ d _ _ h=>by cases d<;>exact h) ⟨c1,a5⟩ (fun hS0=>?_)
   iterate 10
    refine q01 (v:=?_) rfl (by rfl) ?_ ?_;rotate_left
    ·intro w e3;go_simp;with_reducible rfl
    simp only[Act.put,sa,sb,sc]
   have F:=vv e2.o.drew;have a8:qi (G<(World.drew w4).heap.size):=vv kl;clear c1 a5 kl;have f:=F.o.get 1 rfl;have k:=F.o.get 0 rfl;refine q04 rfl (by rfl) (fun K hK=>?_);refine q16 92 (.tmp 2) (.tmp 37) rfl w.heap.size [.int .u8 0,.bool qa,.bool qa,.string ⟨#[]⟩,.int .i64 0,.bool qa,.slice qc 0 0,.int .i64 0,.int .u64 0] rfl rfl 92 _ f (by kernel_rfl) rfl rfl (fun w8 a b=>?_);have g:=k.grown b (fun e=>by injection e with e;omega);have E:=vv (F.o.put 1 rfl (a2.o _ _) lr a b);refine hK.out _ _ ⟨(q0u b (p:=⟨G,1,qc⟩) a8.o (by show G≠w.heap.size;have:=D.o;omega)).trans hS0.1,(q0u b (p:=⟨G,2,qc⟩) a8.o (by show G≠w.heap.size;have:=D.o;omega)).trans hS0.2⟩ (fun a1=>?_);clear hK a b a1 hS0 f k;refine q0a ?_;simp only[k0P,k0L];go_wp2_with (with_reducible refine q05 rfl 80 (.tmp 3) (.tmp 46) rfl (w.heap.size+1) [.int .i64 (V.code:Int),.int .i64 (V.pos:Int)] rfl rfl 80 _ g (by kernel_rfl) rfl rfl ?_);intro w9 a i;have c:=vv (E.o.put 0 rfl (a3.o _ _) (k1s _) a i);clear a i g;go_wp2;have n:=c.o.get 0 rfl;have I:=c.o.get 1 rfl;have r:=n.cell 0;have t:=n.cell 1;simp only[k07,k0c] at r t;obtain⟨J,L,M,N,O,P,Q,R,S⟩:=Blk.num I;rw[H.o];exact qb (v:=.tuple #[Scn.numV Num.none_ qc 0 0,.agg #[.int .i64 (V.code:Int),.int .i64 (V.pos:Int)]]) (by simp [results,results47,go_sem,r,t,J,L,M,N,O,P,Q,R,S,Scn.numV,Num.none_]) rfl ⟨Num.none_,qc,0,0,rfl,c.o.low,fun h=>absurd h b2.o⟩
 ·have b2:=vv hc;have H:qi (Scn.read s=(Num.none_,U.code,U.pos)):=vv (by have a7:(if U.code=0/\U.rest.size≠0 then U.fail 113 else U)=U:=if_neg (fun h=>hc h.1);rw[b5.o,a7,if_neg hc]);have d0:((U.code:Int)==0)=qa:=by rw[k02];omega
  have d2:((U.code:Int) != 0)=qm:=by rw[k1r];omega
  clear hc a0 a4;go_wp2_with (first|rw[<- b7.o]|fail);refine q02 (fun w'=>w'.cell? ⟨G,1,qc⟩=qh (.int .i64 (U.pos:Int))/\w'.cell? ⟨G,2,qc⟩=qh (.int .i64 (U.code:Int))) 11
   (.still 0 (.still 1 (.still 2 (.still 3 (.still 4 (.still 5 (.still 6 (.still 7 (.still 8 (.still 9 (.one 10 .done))))))))))) (by kernel_rfl) (by kernel_rfl) (fun _ _ d _ _ h=>by cases d<;>exact h) ⟨c1,a5⟩ (fun hS0=>?_)
  iterate 10
   refine q01 (v:=?_) rfl (by rfl) ?_ ?_;rotate_left
   ·intro w e3;go_simp;with_reducible rfl
   simp only[Act.put,sa,sb,sc]
  have F:=vv Z.o.drew;have a8:qi (G<(World.drew w3).heap.size):=vv kl;clear c1 a5 kl;have f:=F.o.get 1 rfl;have k:=F.o.get 0 rfl;refine q04 rfl (by rfl) (fun K hK=>?_);refine q16 92 (.tmp 2) (.tmp 37) rfl w.heap.size [.int .u8 0,.bool qa,.bool qa,.string ⟨#[]⟩,.int .i64 0,.bool qa,.slice qc 0 0,.int .i64 0,.int .u64 0] rfl rfl 92 _ f (by kernel_rfl) rfl rfl (fun w8 a b=>?_);have g:=k.grown b (fun e=>by injection e with e;omega);have E:=vv (F.o.put 1 rfl (a2.o _ _) lr a b);refine hK.out _ _ ⟨(q0u b (p:=⟨G,1,qc⟩) a8.o (by show G≠w.heap.size;have:=D.o;omega)).trans hS0.1,(q0u b (p:=⟨G,2,qc⟩) a8.o (by show G≠w.heap.size;have:=D.o;omega)).trans hS0.2⟩ (fun a1=>?_);clear hK a b a1 hS0 f k;refine q0a ?_;simp only[k0P,k0L];go_wp2_with (with_reducible refine q05 rfl 80 (.tmp 3) (.tmp 46) rfl (w.heap.size+1) [.int .i64 (U.code:Int),.int .i64 (U.pos:Int)] rfl rfl 80 _ g (by kernel_rfl) rfl rfl ?_);intro w9 a i;have c:=vv (E.o.put 0 rfl (a3.o _ _) (k1s _) a i);clear a i g;go_wp2;have n:=c.o.get 0 rfl;have I:=c.o.get 1 rfl;have r:=n.cell 0;have t:=n.cell 1;simp only[k07,k0c] at r t;obtain⟨J,L,M,N,O,P,Q,R,S⟩:=Blk.num I;rw[H.o];exact qb (v:=.tuple #[Scn.numV Num.none_ qc 0 0,.agg #[.int .i64 (U.code:Int),.int .i64 (U.pos:Int)]]) (by simp [results,results47,go_sem,r,t,J,L,M,N,O,P,Q,R,S,Scn.numV,Num.none_]) rfl ⟨Num.none_,qc,0,0,rfl,c.o.low,fun h=>absurd h b2.o⟩
end Dlx
end Go.Proofs.YthopehoklmgphaaGreatDoor
