/- Lemmas. -/
import Derived.Test.YtppgcnhlpnmieaaGreatDoorPartBK
import Derived.Test.YtppgcnhlpnmieaaGreatDoorPartBG
import Derived.Test.YtppgcnhlpnmieaaGreatDoorPartBA
import Derived.Test.YtppgcnhlpnmieaaGreatDoorPartBF
import Derived.Test.YtppgcnhlpnmieaaGreatDoorPartAV
set_option linter.all false
set_option maxHeartbeats 2000000
set_option maxRecDepth 100000
namespace Go.Proofs.YtppgcnhlpnmieaaGreatDoor.Hx
open Go Go.RowKit R5 Scn Fms Exa
def RdP(bits flags:Nat)(w:World)(e:Ending)(w':World):Prop:=
 e=.returned (.tuple #[.int .u64 (bits:Int),.int .u8 (flags:Int),.nilIface])/\Below w.heap.size w w'
theorem qbN(G F:Nat)(s:ByteArray)(mode:Nat)(x:Num)(w:World)(g1:1<=G)(g2:G<=10)(h3:1<=F)(h4:F<=52)(hm:mode<=4)(hg:Bg w)
  (hr:q6H s=(x,0,0)) (hk:x.kind=2) (hn:(toL x.mant).length<=16384) (hok:twoOk x.hneg (toL x.mant).length (toL x.mant) x.hexp=true) :
  Calls Tryz.prog 51 #[fm ((G:Int)+1) F,.string s,.int .u8 (mode:Int)] w (RdP (q0V (G+1) F x.hneg x.neg mode (x.mant*p2 x.hexp) (p2 (-x.hexp))).1 (q0V (G+1) F x.hneg x.neg mode (x.mant*p2 x.hexp) (p2 (-x.hexp))).2 w):=by
 have a5:=R3.chk_ok (Fms.formOk_in (E:=G+1) (F:=F) (by omega) (by omega) h3 h4);rw[show(((G+1:Nat):Int))=(G:Int)+1 by omega] at a5;have a6:=vv fun w=>Fms.Check ((G:Int)+1) F w
 rw[a5] at a6;have a7:=vv fun w' (h:Below w.heap.size w w')=>Scn.Read s w' (hg.below h)
 rw[hr] at a7;have b2:-1073741824<=x.hexp/\x.hexp<=1073741824:=by
  unfold twoOk at hok;simp only[Bool.and_eq_true,decide_eq_true_eq] at hok;exact⟨hok.1.2,hok.1.1.2⟩
 have a8:=vv fun A m c w' (hs:Std w') (ha:Rd w' A m c (toL x.mant))=>Rnd.Dyadic G F x.hneg x.neg mode A m c x.mant x.hexp w' g1 g2 h3 h4 hm ha (by rw[<- ha.len];exact hn) (by rw[<- ha.len];exact hok) (by omega) (by omega)
 have b3:=vv hg.std;obtain⟨o,ho⟩:=yx (q0V (G+1) F x.hneg x.neg mode (x.mant*p2 x.hexp) (p2 (-x.hexp)));rw[<- ho] at a8 ⊢;obtain⟨kd,ng,dn,dg,ex,a0,M,hx,py⟩:=x;dsimp only at *
 subst hk;have c2:(mode:Int)<=4:=by omega
 have dm:decide ((4:Int)<(mode:Int))=false:=decide_eq_false (by omega);obtain⟨w0,a1⟩:=yx (w.alloc (.cells #[.int .i64 ((G:Int)+1),.int .i64 (F:Int)] 23));have hB:Below w.heap.size w w0:=by rw[a1];exact(Below.refl _ _).alloc lr _
 have hQ:Blk w0 w.heap.size 23 [.int .i64 ((G:Int)+1),.int .i64 (F:Int)]:=by rw[a1];exact Blk.made w 23 [.int .i64 ((G:Int)+1),.int .i64 (F:Int)]
 have HW:=vv a1;have HB:=vv hB;have HQ:=vv hQ;have c3:(G:Int)<=10:=by omega
 clear a1 hB hQ hr a5 hg hn hok b2 ho g1 g2 h3 h4 hm;go_enter Tryz.func51,Tryz.ntmps51
 go_wp2_with fail
 rw[<- HW.o];refine(a6.o _).mono ?_;rintro e w1 ⟨rfl,hB⟩;have b4:=vv (HQ.o.below hB);have a9:=vn HB hB;clear hB;go_wp2_with fail
 refine(a7.o _ a9.o).mono ?_;rintro e w2 h;rcases h with ⟨_,A,m,c,rfl,hA,_,hB⟩|⟨h,_⟩
 ·have a2:=vv (b4.o.below hB);have b5:=vn a9 hB;have b6:=vv hA;clear hB hA;have hv:Go.Proofs.YtppgcnhlpnmieaaGreatDoor.Scn.numV ⟨2,ng,dn,dg,ex,a0,M,hx,py⟩ A m c=.agg #[.int .u8 2,.bool ng,.bool dn,.string ⟨dg.toArray⟩,.int .i64 ex,.bool a0,.slice A m c,.int .i64 hx,.int .u64 (py:Int)]:=rfl;obtain⟨w3,a3⟩:=yx (w2.alloc (.cells #[.int .u8 2,.bool ng,.bool dn,.string ⟨dg.toArray⟩,.int .i64 ex,.bool a0,.slice A m c,.int .i64 hx,.int .u64 (py:Int)] 33));have a4:Below w2.heap.size w2 w3:=by rw[a3];exact(Below.refl _ _).alloc lr _
  have b0:Blk w3 w2.heap.size 33 [.int .u8 2,.bool ng,.bool dn,.string ⟨dg.toArray⟩,.int .i64 ex,.bool a0,.slice A m c,.int .i64 hx,.int .u64 (py:Int)]:=by rw[a3];exact Blk.made w2 33 [.int .u8 2,.bool ng,.bool dn,.string ⟨dg.toArray⟩,.int .i64 ex,.bool a0,.slice A m c,.int .i64 hx,.int .u64 (py:Int)]
  have c4:=vv (a2.o.below a4);have b1:=vn b5 a4;have b7:=vv (b6.o.below a4 rfl);have c5:=vv b0;have b8:=vv a3;clear a4 b0 a3;rw[hv];clear hv;have c0:=a2.o.cell 0;have c1:=a2.o.cell 1;have cl:=a2.o.lt;simp only[List.getElem?_cons_zero,List.getElem?_cons_succ] at c0 c1;go_wp2_with fail
  rw[<- b8.o];refine(a8.o _ _ _ _ (b3.o.below b1.o) b7.o).mono ?_;rintro e w4 ⟨rfl,hB⟩;have b9:=vn b1 hB;clear hB c0 c1 cl;go_wp2;go_ret3
  exact⟨rfl,b9.o⟩
 ·exact absurd rfl h
end Go.Proofs.YtppgcnhlpnmieaaGreatDoor.Hx
namespace Go.Proofs.YtppgcnhlpnmieaaGreatDoor
open Go Go.RowKit Scn Hx
abbrev q7O:=Nat × TypeId × List Value
structure Ctx(w:World)(bs:List q7O)(w':World):Prop where
 low:Below w.heap.size w w'
 all:∀x∈bs,Blk w' x.1 x.2.1 x.2.2
theorem Ctx.nil(w:World):Ctx w [] w:=⟨Below.refl _ _,fun _ h=>by cases h⟩
theorem Ctx.step{w w1 w2:World}{bs:List q7O}(h:Ctx w bs w1)(hb:Below w1.heap.size w1 w2):Ctx w bs w2:=
 ⟨h.low.trans (hb.mono h.low.size),fun x hx=>(h.all x hx).below hb⟩
theorem Ctx.drew{w w1:World}{bs:List q7O}(h:Ctx w bs w1):Ctx w bs w1.drew:=h.step (q04 (Below.refl _ _))
theorem Ctx.new{w w1:World}{bs:List q7O}(h:Ctx w bs w1)(t:TypeId)(cs:List Value){g:Nat}(hg:g=w1.heap.size):Ctx w ((g,t,cs)::bs) (w1.alloc (.cells cs.toArray t)):=by
 subst hg;refine⟨h.low.trans (((Below.refl w1.heap.size w1).alloc lr _).mono h.low.size),fun x hx=>?_⟩;rcases List.mem_cons.1 hx with rfl|hx
 ·exact Blk.made _ _ _
 ·exact(h.all x hx).alloc _
theorem Ctx.get{w w':World}{bs:List q7O}(h:Ctx w bs w')(i:Nat){g:Nat}{t:TypeId}{cs:List Value}(hi:bs[i]?=some (g,t,cs)):Blk w' g t cs:=h.all (g,t,cs) (List.mem_of_getElem? hi)
theorem Ctx.put{w w1 w2:World}{bs:List q7O}(h:Ctx w bs w1)(i:Nat){g:Nat}{t:TypeId}{old cs:List Value}(hi:bs[i]?=some (g,t,old))(hne:∀j x,j≠i->bs[j]?=some x->x.1≠g)(hw:w.heap.size<=g)
  (hb:Blk w2 g t cs) (hg:w1.grownBy w2 (some g)):Ctx w (bs.set i (g,t,cs)) w2:=by
 refine⟨q0a h.low hg h.low.size hw,fun x hx=>?_⟩;obtain⟨j,hj⟩:=List.getElem?_of_mem hx;by_cases e:j=i
 ·subst e;rw[List.getElem?_set_self' ] at hj;rw[hi] at hj;cases hj
  exact hb
 ·rw[List.getElem?_set_ne (fun k=>e k.symm)] at hj;exact(h.all x (List.mem_of_getElem? hj)).grown hg (fun k=>hne j x e hj (Option.some.inj k).symm)
theorem Ctx.write{w w1 w2:World}{bs:List q7O}(h:Ctx w bs w1){g:Nat}(hg:w1.grownBy w2 (some g))(hw:w.heap.size<=g)(hne:∀x∈bs,x.1≠g):Ctx w bs w2:=
 ⟨q0a h.low hg h.low.size hw,fun x hx=>(h.all x hx).grown hg (fun k=>hne x hx (Option.some.inj k).symm)⟩
theorem Ctx.row{w w1 w2:World}{bs:List q7O}(h:Ctx w bs w1){row:Option Nat}(hg:w1.grownBy w2 row)(hw:∀b,row=some b->w.heap.size<=b/\∀x∈bs,x.1≠b):Ctx w bs w2:=by
 refine⟨⟨hg.os.trans h.low.os,hg.tape.trans h.low.tape,hg.output.trans h.low.output,Nat.le_trans h.low.size hg.size,fun i hi=>?_⟩,fun x hx=>(h.all x hx).grown hg (fun k=>(hw _ k).2 x hx rfl)⟩;exact(hg.block i (Nat.lt_of_lt_of_le hi h.low.size) (fun k=>by have:=(hw _ k.symm).1;omega)).trans (h.low.block i hi)
theorem Ctx.fs{w w1 w2:World}{bs:List q7O}{l:List Ob}(h:Ctx w bs w1)(hf:Fs l w1 w2)(hw:∀p∈l,w.heap.size<=p.1)(hne:∀x∈bs,∀p∈l,p.1≠x.1):Ctx w bs w2:=
 ⟨hf.below h.low h.low.size hw,fun x hx=>(hf.block x.1 (h.all x hx).lt (hne x hx)).trans (h.all x hx)⟩
theorem Rd.else_{w w':World}{A:Option Addr}{n c g:Nat}{xs:List Nat}{t:TypeId}{cs:List Value}(h:Rd w A n c xs)(hb:Blk w g t cs)(hcs:cs.all (fun v=>match v with|.int _ _=>false|_=>true)=true)(hg:w.grownBy w' (some g)):Rd w' A n c xs:=
 ⟨h.len,h.le,h.sm,h.lim,fun hn=>by
  obtain⟨b,off,e,hlt,hc⟩:=h.cell hn;have hne:b≠g:=by
   rintro rfl;have h0:=hc 0 hn;rw[hb.cell] at h0;have:=List.all_eq_true.1 hcs _ (List.mem_of_getElem? h0);simp at this
  exact⟨b,off,e,Nat.lt_of_lt_of_le hlt hg.size,fun j hj=>(q0A hg (p:=⟨b,off+j,none⟩) hlt hne).trans (hc j hj)⟩⟩
theorem Ctx.rd{w w':World}{bs:List q7O}(h:Ctx w bs w'){A:Option Addr}{n c:Nat}{xs:List Nat}(hr:Rd w A n c xs):Rd w' A n c xs:=hr.below h.low rfl
theorem Ctx.std{w w':World}{bs:List q7O}(h:Ctx w bs w')(hs:Std w):Std w':=hs.below h.low
end Go.Proofs.YtppgcnhlpnmieaaGreatDoor
namespace Go.Proofs.YtppgcnhlpnmieaaGreatDoor.Hx
open Go Go.RowKit R5 Scn Fms Exa
theorem bias_nat{E:Nat}:q1z E=((2^(E-1):Nat):Int)-1:=by
 unfold q1z;have h2:((2^(E-1):Nat):Int)=(2:Int)^(E-1):=by rw[Int.natCast_pow];rfl
 rw[h2]
theorem q8m{M:Nat}(h:0<M):M=q6k M*2^tz M:=by
 unfold q6k;rw[if_neg (by omega)];obtain⟨m,hm⟩:=q2O h;have e:M/2^tz M=2*m+1:=Nat.div_eq_of_eq_mul_right (Nat.two_pow_pos _) hm;rw[e,Nat.mul_comm];exact hm
end Go.Proofs.YtppgcnhlpnmieaaGreatDoor.Hx
namespace Go.Proofs.YtppgcnhlpnmieaaGreatDoor.Scn
open Go
abbrev bo(l:List UInt8):ByteArray:=⟨l.toArray⟩
theorem qcK{a b:ByteArray}(h:a.data.toList=b.data.toList):a=b:=by
 obtain⟨x⟩:=a;obtain⟨y⟩:=b;congr
 exact Array.toList_inj.1 h
theorem q59(l:List UInt8):(bo l).size=l.length:=rfl
theorem q8T(l:List UInt8)(n:Nat):drop (bo l) n=bo (l.drop n):=by
 apply qcK
 unfold drop;rw[q9G];show(l.take l.length).drop n=l.drop n;rw[List.take_length]
theorem qar(l p:List UInt8):pre (bo l) p=p.isPrefixOf l:=rfl
theorem q1F(c:UInt8)(l:List UInt8)(p:UInt8):pre (bo (c::l)) [p]=(p==c):=by
 rw[qar];simp [List.isPrefixOf]
theorem qcC(c:UInt8)(l:List UInt8):(bo (c::l)).get! 0=c:=rfl
theorem q2p(c:UInt8)(l:List UInt8):q0O (bo (c::l))=match q60 c.toNat with|some d=>(d,1)|none=>(0,0):=by
 unfold q0O;rw[q59,if_neg (by simp),qcC];cases q60 c.toNat<;>rfl
theorem q8Z(c:UInt8)(l:List UInt8)(h:c.toNat<128):Utf8.decode (bo (c::l)) 0=(c.toNat,1):=by
 exact if_pos h
theorem q9u(c:UInt8)(l:List UInt8)(h:c.toNat<128):ten (bo (c::l))=match q1c q10 c.toNat with|some d=>(d,1)|none=>(0,0):=by
 unfold ten;rw[q59,if_neg (by simp),q8Z c l h];cases q1c q10 c.toNat<;>rfl
theorem q4o{D:ByteArray->Nat × Nat}{wh:UInt8->Nat}{rest:List UInt8}(hr:(D (bo rest)).2=0)(hr2:pre (bo rest) [95]=false):
  ∀(ds:List UInt8),(∀c∈ds,c≠95/\∀l,D (bo (c::l))=(wh c,1))->∀(f pos:Nat) (acc:List Nat),ds.length<f ->
   q5u D f ⟨bo (ds++rest),pos,0⟩ acc=(acc++ds.map wh,⟨bo rest,pos+ds.length,0⟩)
 | [],_,f,pos,acc,hf=>by
  obtain⟨f',rfl⟩:∃f',f=f'+1:=⟨f-1,by simp at hf;omega⟩;rw[q1D];simp only[List.nil_append];rw[if_pos hr];simp
 | c::ds,hd,f,pos,acc,hf=>by
  obtain⟨f',rfl⟩:∃f',f=f'+1:=⟨f-1,by simp at hf;omega⟩;have hc:=hd c (List.mem_cons_self ..);have hD:D (bo (c::ds++rest))=(wh c,1):=hc.2 (ds++rest);rw[q1D];simp only[hD];rw[if_neg (by decide)];have hs:(St.mk (bo (c::ds++rest)) pos 0).skip 1=⟨bo (ds++rest),pos+1,0⟩:=by
   unfold St.skip;simp only[q8T]
   rfl
  have hp:pre (bo (ds++rest)) [95]=false:=by
   rcases ds with _|⟨e,ds⟩
   ·exact hr2
   ·rw[List.cons_append,q1F];have:=(hd e (by simp)).1;rw[beq_eq_false_iff_ne];exact fun k=>this k.symm
  rw[hs];simp only[hp];rw[if_neg (by decide),q4o hr hr2 ds (fun x hx=>hd x (by simp [hx])) f' (pos+1) _ (by simp at hf;omega)];simp [Nat.add_comm,Nat.add_left_comm]
theorem q3E{D:ByteArray->Nat × Nat}{wh:UInt8->Nat}{rest:List UInt8}(hr:(D (bo rest)).2=0)(hr2:pre (bo rest) [95]=false)
  (ds:List UInt8) (hd:∀c∈ds,c≠95/\∀l,D (bo (c::l))=(wh c,1)) (pos:Nat):(St.mk (bo (ds++rest)) pos 0).row D=(ds.map wh,⟨bo rest,pos+ds.length,0⟩):=by
 have hp:pre (bo (ds++rest)) [95]=false:=by
  rcases ds with _|⟨e,ds⟩
  ·exact hr2
  ·rw[List.cons_append,q1F];have:=(hd e (by simp)).1;rw[beq_eq_false_iff_ne];exact fun k=>this k.symm
 unfold St.row;simp only[hp];rw[if_neg (by decide),if_neg (by decide),q4o hr hr2 ds hd _ _ _ (by rw[q59];simp;omega)]
 rfl
def q7R(c:UInt8):Nat:=(q60 c.toNat).getD 0
def q9n(c:UInt8):Nat:=c.toNat-48
theorem qcA:∀d:Fin 16,q60 (Hx.hx d.val).toNat=some d.val/\Hx.hx d.val≠95:=by decide
theorem q6X(N:Nat):∀(k:Nat) (c:UInt8),c∈Hx.hexL N k->∃d,d<16/\c=Hx.hx d
 | 0,c,h=>by cases h
 | k+1,c,h=>by
  rcases List.mem_cons.1 h with h|h
  ·exact⟨_,Nat.mod_lt _ (by decide),h⟩
  ·exact q6X N k c h
theorem q8G(N k:Nat):∀c∈Hx.hexL N k,c≠95/\∀l,q0O (bo (c::l))=(q7R c,1):=by
 intro c hc;obtain⟨d,hd,rfl⟩:=q6X N k c hc;have h:=qcA ⟨d,hd⟩;refine⟨h.2,fun l=>?_⟩;rw[q2p];have h1:q60 (Hx.hx d).toNat=some d:=h.1;unfold q7R;rw[h1]
 rfl
theorem qaO{d:Nat}(h:d<16):q7R (Hx.hx d)=d:=by
 unfold q7R;rw[show q60 (Hx.hx d).toNat=some d from(qcA ⟨d,h⟩).1]
 rfl
theorem q3t(N:Nat):∀(k n:Nat),((Hx.hexL N k).map q7R).foldl (fun n d=>16*n+d) n=n*16^k+N%16^k
 | 0,n=>by simp [Hx.hexL,Nat.mod_one]
 | k+1,n=>by
  rw[show Hx.hexL N (k+1)=Hx.hx (N/16^k%16)::Hx.hexL N k from rfl,List.map_cons,List.foldl_cons,q3t N k,qaO (Nat.mod_lt _ (by decide))];rw[Nat.pow_succ,Nat.mod_mul,Nat.add_mul]
  grind
theorem q5l(N k:Nat):q62 ((Hx.hexL N k).map q7R)=N%16^k:=by
 unfold q62;rw[q3t];simp
theorem q6a:∀d:Fin 10,q1c q10 (UInt8.ofNat (48+d.val)).toNat=some d.val/\UInt8.ofNat (48+d.val)≠95/\(UInt8.ofNat (48+d.val)).toNat<128/\q9n (UInt8.ofNat (48+d.val))=d.val:=by decide
theorem q90(u:Nat):∀c∈Lib.decDigits u,∃d,d<10/\c=UInt8.ofNat (48+d):=by
 induction u using Nat.strongRecOn with
 | _ u ih =>
  intro c hc;by_cases h:u<10
  ·rw[Lib.decDigits,dif_pos h] at hc;exact⟨u,h,List.mem_singleton.1 hc⟩
  ·rw[Lib.decDigits,dif_neg h] at hc;rcases List.mem_append.1 hc with hc|hc
   ·exact ih (u/10) (by omega) c hc
   ·exact⟨u%10,by omega,List.mem_singleton.1 hc⟩
theorem qcE(u:Nat):∀c∈Lib.decDigits u,c≠95/\∀l,ten (bo (c::l))=(q9n c,1):=by
 intro c hc;obtain⟨d,hd,rfl⟩:=q90 u c hc;have h:=q6a ⟨d,hd⟩;refine⟨h.2.1,fun l=>?_⟩;rw[q9u _ _ h.2.2.1];rw[show q1c q10 (UInt8.ofNat (48+d)).toNat=some d from h.1,show q9n (UInt8.ofNat (48+d))=d from h.2.2.2]
theorem q7c(u:Nat)(hu:u<=68719476736):q61 ((Lib.decDigits u).map q9n) 0=u:=by
 induction u using Nat.strongRecOn with
 | _ u ih =>
  by_cases h:u<10
  ·rw[Lib.decDigits,dif_pos h];have:=(q6a ⟨u,h⟩).2.2.2;simp only[List.map_cons,List.map_nil,q61,List.foldl_cons,List.foldl_nil];rw[show q9n (UInt8.ofNat (48+u))=u from this];omega
  ·have e:=ih (u/10) (by omega) (by omega);rw[Lib.decDigits,dif_neg h];unfold q61 at e ⊢;rw[List.map_append,List.foldl_append,e];have:=(q6a ⟨u%10,by omega⟩).2.2.2;simp only[List.map_cons,List.map_nil,List.foldl_cons,List.foldl_nil];rw[show q9n (UInt8.ofNat (48+u%10))=u%10 from this];omega
theorem qaD(u:Nat):Lib.decDigits u≠[]:=by
 intro h;have:=Lib.decDigits_length u;rw[h] at this;have:=Lib.nDigits_pos u;simp at *
 omega
theorem q4v(l:List UInt8)(pos:Nat)(c p:UInt8):(St.mk (bo (c::l)) pos 0).has [p]=(p==c):=by
 unfold St.has;rw[q1F]
 rfl
theorem q4M(l:List UInt8)(pos n:Nat):(St.mk (bo l) pos 0).skip n=⟨bo (l.drop n),pos+n,0⟩:=by
 unfold St.skip;rw[q8T]
theorem qbi(l:List UInt8)(pos:Nat)(c:UInt8)(h:c≠226):(St.mk (bo (c::l)) pos 0).has [226,136,146]=false:=by
 unfold St.has;rw[qar];have:([226,136,146]:List UInt8).isPrefixOf (c::l)=false:=by
  simp only[List.isPrefixOf];rw[show((226:UInt8)==c)=false by rw[beq_eq_false_iff_ne];exact fun k=>h k.symm]
  rfl
 rw[this]
 rfl
theorem q6Q(l:List UInt8)(pos:Nat)(c:UInt8)(h1:c≠43)(h2:c≠45)(h3:c≠226):(St.mk (bo (c::l)) pos 0).minus=(false,⟨bo (c::l),pos,0⟩):=by
 unfold St.minus;rw[q4v,q4v,qbi _ _ _ h3,show((43:UInt8)==c)=false by rw[beq_eq_false_iff_ne];exact fun k=>h1 k.symm,show((45:UInt8)==c)=false by rw[beq_eq_false_iff_ne];exact fun k=>h2 k.symm]
 rfl
theorem q5C(l:List UInt8)(pos:Nat):(St.mk (bo (45::l)) pos 0).minus=(true,⟨bo l,pos+1,0⟩):=by
 unfold St.minus;rw[q4v,q4v,q4M]
 rfl
theorem qa4(u:Nat):∃d l,d<10/\Lib.decDigits u=UInt8.ofNat (48+d)::l:=by
 rcases h:Lib.decDigits u with _|⟨c,l⟩
 ·exact absurd h (qaD u)
 ·obtain⟨d,hd,rfl⟩:=q90 u c (by rw[h];simp);exact⟨d,l,hd,rfl⟩
theorem qbg:∀d:Fin 10,UInt8.ofNat (48+d.val)≠43/\UInt8.ofNat (48+d.val)≠45/\UInt8.ofNat (48+d.val)≠226:=by decide
theorem q6O(u:Nat)(pos:Nat)(hu:u<=68719476736):∃p,(St.mk (bo (Lib.decDigits u)) pos 0).must ten=((Lib.decDigits u).map q9n,⟨bo [],p,0⟩):=by
 have h:=q3E (D:=ten) (wh:=q9n) (rest:=[]) rfl rfl (Lib.decDigits u) (qcE u) pos;rw[List.append_nil] at h;refine⟨pos+(Lib.decDigits u).length,?_⟩;unfold St.must;rw[h];have:(Lib.decDigits u).map q9n≠[]:=by
  intro k;exact qaD u (List.map_eq_nil_iff.1 k)
 rw[if_neg this]
theorem q50(x:Int)(pos:Nat)(h1:-68719476736<=x)(h2:x<=68719476736):
  ∃p,(St.mk (bo (112::Lib.itoa x)) pos 0).exponent [112]=(x,⟨bo [],p,0⟩):=by
 have hf:(St.mk (bo (112::Lib.itoa x)) pos 0).fold [112]=true:=by
  generalize Lib.itoa x=it;cases it<;>rfl
 unfold St.exponent;rw[if_pos hf,q4M];simp only[List.length_cons,List.length_nil,List.drop_succ_cons,List.drop_zero];unfold Lib.itoa;by_cases h:x<0
 ·rw[if_pos h,q5C];obtain⟨p,hp⟩:=q6O x.natAbs (pos+(0+1)+1) (by omega);refine⟨p,?_⟩;simp only[hp];rw[if_pos trivial,q7c _ (by omega)];congr 1
  omega
 ·rw[if_neg h];obtain⟨d,l,hd,e⟩:=qa4 x.toNat;obtain⟨p,hp⟩:=q6O x.toNat (pos+(0+1)) (by omega);refine⟨p,?_⟩;have k:=qbg ⟨d,hd⟩;rw[e] at hp ⊢;rw[q6Q _ _ _ k.1 k.2.1 k.2.2];simp only[hp];rw[if_neg (by decide),<- e,q7c _ (by omega)];congr 1
  omega
theorem q4O(l:List UInt8):(q0O (bo (46::l))).2=0:=by rw[q2p];rfl
theorem q5r(l:List UInt8):(q0O (bo (112::l))).2=0:=by rw[q2p];rfl
theorem q40(N q:Nat):Hx.hexL N (q+1)=Hx.hx (N/16^q%16)::Hx.hexL N q:=rfl
def q9k(N q:Nat):List UInt8:=(Hx.hexL N (q+1)).take 1++(if 1<(Hx.hexL N (q+1)).length then 46::(Hx.hexL N (q+1)).drop 1 else[])
theorem q8U(N:Nat):q9k N 0=[Hx.hx (N/16^0%16)]:=rfl
theorem qa2{N q:Nat}(h:0<q):q9k N q=Hx.hx (N/16^q%16)::46::Hx.hexL N q:=by
 unfold q9k;rw[q40,if_pos (by rw[List.length_cons,Hx.hexL_len];omega)]
 rfl
theorem q73(N q:Nat):∀c∈[Hx.hx (N/16^q%16)],c≠95/\∀l,q0O (bo (c::l))=(q7R c,1):=by
 intro c hc;exact q8G N (q+1) c (by rw[q40];rw[List.mem_singleton.1 hc];exact List.mem_cons_self ..)
theorem q4V(N q:Nat)(it:List UInt8)(pos:Nat):
  ∃p,(St.mk (bo (q9k N q++112::it)) pos 0).mantissa q0O=((Hx.hexL N (q+1)).map q7R,q,⟨bo (112::it),p,0⟩):=by
 have hp:pre (bo (112::it)) [95]=false:=by rw[q1F];rfl
 rcases Nat.eq_zero_or_pos q with rfl|h
 ·have h1:=q3E (D:=q0O) (wh:=q7R) (rest:=112::it) (q5r it) hp [Hx.hx (N/16^0%16)] (q73 N 0) pos;refine⟨pos+1,?_⟩;unfold St.mantissa;rw[q8U];rw[show([Hx.hx (N/16^0%16)]++112::it)=[Hx.hx (N/16^0%16)]++(112::it) from rfl,h1];simp only[q4v];rw[if_neg (by decide),if_neg (by simp)]
  rfl
 ·have h1:=q3E (D:=q0O) (wh:=q7R) (rest:=46::(Hx.hexL N q++112::it)) (q4O _) (by rw[q1F];rfl) [Hx.hx (N/16^q%16)] (q73 N q) pos;have h2:=q3E (D:=q0O) (wh:=q7R) (rest:=112::it) (q5r it) hp (Hx.hexL N q) (q8G N q) (pos+1+1);refine⟨pos+1+1+(Hx.hexL N q).length,?_⟩;unfold St.mantissa;rw[qa2 h];rw[show(Hx.hx (N/16^q%16)::46::Hx.hexL N q)++112::it=[Hx.hx (N/16^q%16)]++46::(Hx.hexL N q++112::it) from rfl,h1];simp only[q4v,q4M,List.length_cons,List.length_nil,List.drop_succ_cons,List.drop_zero,Nat.zero_add];rw[if_pos (by decide),h2];simp only[List.length_map,Hx.hexL_len,List.map_cons,List.map_nil,List.length_cons,List.length_nil];rw[if_neg (by omega),q40]
  rfl
def q5I(neg:Bool)(n:Nat)(x:Int):Num:=if n=0 then⟨2,neg,false,[],0,false,0,0,0⟩ else⟨2,neg,false,[],0,neg,n/2^tz n,q7F (x+tz n),0⟩
theorem q9U(neg:Bool)(N q:Nat)(x:Int)(pos:Nat)(hN:N<16^(q+1))(h1:-68719476736<=x)(h2:x<=68719476736):
  ∃p,(St.mk (bo (q9k N q++112::Lib.itoa x)) pos 0).hex neg=(q5I neg N (x-4*q),⟨bo [],p,0⟩):=by
 obtain⟨p1,hm⟩:=q4V N q (Lib.itoa x) pos;obtain⟨p2,he⟩:=q50 x p1 h1 h2;refine⟨p2,?_⟩;unfold St.hex;rw[hm];simp only[he];rw[q5l,Nat.mod_eq_of_lt hN]
 rfl
theorem q8K(l:List UInt8)(pos:Nat):(St.mk (bo (48::120::l)) pos 0).fold [48,120]=true:=by
 cases l<;>rfl
theorem q6l(neg:Bool)(N q:Nat)(x:Int)(hN:N<16^(q+1))(h1:-68719476736<=x)(h2:x<=68719476736):
  ∃p,(St.mk (bo (Hx.txtL neg (Hx.hexL N (q+1)) x)) 0 0).number=(q5I neg N (x-4*q),⟨bo [],p,0⟩):=by
 have ht:Hx.txtL neg (Hx.hexL N (q+1)) x=(if neg then[45] else[])++48::120::(q9k N q++112::Lib.itoa x):=by
  unfold Hx.txtL q9k;simp
 have go:∀pos,∃p,(if pre (St.mk (bo (48::120::(q9k N q++112::Lib.itoa x))) pos 0).rest [95] then(Num.none_,(St.mk (bo (48::120::(q9k N q++112::Lib.itoa x))) pos 0).put 112) else
   ((St.mk (bo (48::120::(q9k N q++112::Lib.itoa x))) pos 0).skip 2).hex neg)=(q5I neg N (x-4*q),⟨bo [],p,0⟩):=by
  intro pos;obtain⟨p,hp⟩:=q9U neg N q x (pos+2) hN h1 h2;refine⟨p,?_⟩;simp only[q1F];rw[if_neg (by decide),q4M];exact hp
 rw[ht];cases neg with
 | true =>
  obtain⟨p,hp⟩:=go 1;refine⟨p,?_⟩;rw[<- hp];unfold St.number;simp only[if_true,List.cons_append,List.nil_append,q5C,Nat.zero_add];rw[if_pos (q8K _ _)]
 | false =>
  obtain⟨p,hp⟩:=go 0;refine⟨p,?_⟩;rw[<- hp];unfold St.number;simp only[Bool.false_eq_true,if_false,List.nil_append];rw[q6Q _ _ _ (by decide) (by decide) (by decide)];simp only[];rw[if_pos (q8K _ _)]
theorem qaP(neg:Bool)(N q:Nat)(x:Int):(Hx.txtL neg (Hx.hexL N (q+1)) x).length<=q+8+Lib.nDigits x.natAbs:=by
 have h1:=Hx.hexL_len N (q+1);have h2:(Lib.itoa x).length<=1+Lib.nDigits x.natAbs:=by
  unfold Lib.itoa;split
  ·simp [Lib.decDigits_length];omega
  ·rw[show x.toNat=x.natAbs by omega,Lib.decDigits_length];omega
 unfold Hx.txtL;simp only[List.length_append,List.length_cons,List.length_nil,List.length_take,List.length_drop];split<;>split<;>simp<;>omega
theorem q4u:∀(k u:Nat),u<10^k->1<=k->Lib.nDigits u<=k
 | 0,_,_,h=>by omega
 | k+1,u,h,_=>by
  by_cases h1:u<10
  ·rw[Lib.nDigits_small h1];omega
  ·rw[Lib.nDigits_big h1];rcases Nat.eq_zero_or_pos k with rfl|hk
   ·simp at h;omega
   ·have:=q4u k (u/10) (by rw[Nat.pow_succ] at h;omega) hk;omega
theorem q8b(neg:Bool)(N q:Nat)(x:Int)(hN:N<16^(q+1))(hq:q<=60000)(h1:-1000000<=x)(h2:x<=1000000):
  q6H (bo (Hx.txtL neg (Hx.hexL N (q+1)) x))=(q5I neg N (x-4*q),0,0):=by
 obtain⟨p,hp⟩:=q6l neg N q x hN (by omega) (by omega);have hl:=qaP neg N q x;have hn:=q4u 7 x.natAbs (by omega) (by omega);unfold q6H;rw[if_neg (by rw[q59];omega),hp]
 rfl
end Go.Proofs.YtppgcnhlpnmieaaGreatDoor.Scn
namespace Go.Proofs.YtppgcnhlpnmieaaGreatDoor.Hx
open Go Go.RowKit R5 Scn Fms Exa
def low(c:Nat):Nat:=if 65<=c/\c<=90 then c+32 else c
def fig(set s:ByteArray)(i:Nat):Int:=if i<s.size then Lib.indexByte set.data.toList (low (s.data.toList.getD i 0).toNat).toUInt8 else -1
theorem qdw(set s:ByteArray)(g b i:Nat)(w:World)(hg:w.cell? ⟨g,0,none⟩=some (.int .i64 (i:Int)))(hb:w.cell? ⟨b,0,none⟩=some (.string s))(hi:i<=s.size)(hs:s.size<=100000):
  Calls Tryz.prog 127 #[.string set,.pointer (some ⟨g,0,none⟩),.pointer (some ⟨b,0,none⟩)] w fun e w'=>e=.returned (.int .i64 (fig set s i))/\w=w':=by
 have HI:=vv fun c w=>Tryz.strings_IndexByte set c w
 rcases Nat.lt_or_ge i s.size with h|h
 ·have ht:((i:Int)==(s.size:Int))=false:=by rw[beq_eq_false_iff_ne];omega
  have hF:fig set s i=Lib.indexByte set.data.toList (low (s[i]'h).toNat).toUInt8:=by
   unfold fig;rw[if_pos h];congr 3
   simp [List.getD_eq_getElem?_getD,h]
   rfl
  rw[hF];obtain⟨c,hc⟩:=yx ((s[i]'h).toNat);have a0:(c:Int)<=255:=by have:=(s[i]'h).toNat_lt;omega
  rw[<- hc];have HC:=vv hc;go_enter Tryz.func127,Tryz.ntmps127
  go_wp2_with (go_at_call 122;refine(HI.o _ _).mono ?_;rintro e w' ⟨rfl,rfl⟩)
  all_goals
   go_ret
   refine⟨q0T ?_,rfl⟩;rw[HC.o];unfold low;first
    | (
      rename_i q1 q2;replace q1:(65:Int)<=((s[i]'h).toNat:Int):=q1;replace q2:((s[i]'h).toNat:Int)<=90:=q2;have hq:65<=(s[i]'h).toNat/\(s[i]'h).toNat<=90:=by omega
      rw[if_pos hq];show Lib.indexByte _ (UInt8.ofNat (((s[i]'h).toNat:Int)+32).toNat)=_;rw[show(((s[i]'h).toNat:Int)+32).toNat=(s[i]'h).toNat+32 by omega];try rfl)
    | (
      rename_i q1 q2;replace q2:(90:Int)<((s[i]'h).toNat:Int):=q2;have hq:¬(65<=(s[i]'h).toNat/\(s[i]'h).toNat<=90):=by omega
      rw[if_neg hq];show Lib.indexByte _ (s[i]'h)=_;congr 1
      exact(UInt8.ofNat_toNat).symm)
    | (
      rename_i q1;replace q1:((s[i]'h).toNat:Int)<65:=q1;have hq:¬(65<=(s[i]'h).toNat/\(s[i]'h).toNat<=90):=by omega
      rw[if_neg hq];show Lib.indexByte _ (s[i]'h)=_;congr 1
      exact(UInt8.ofNat_toNat).symm)
 ·have ht:((i:Int)==(s.size:Int))=true:=by rw[beq_iff_eq];omega
  have hF:fig set s i = -1:=by unfold fig;rw[if_neg (by omega)]
  rw[hF];go_enter Tryz.func127,Tryz.ntmps127
  go_wp2;go_ret
  exact⟨rfl,rfl⟩
end Go.Proofs.YtppgcnhlpnmieaaGreatDoor.Hx
namespace Go.Proofs.YtppgcnhlpnmieaaGreatDoor.R2
open Go Go.RowKit B R5 Scn
def qd4(N:Nat)(w:World)(e:Ending)(w':World):Prop:=∃A n c,e=.returned (q1u A n c)/\Rd w' A n c (toL N)/\Below w.heap.size w w'
theorem NatW(g o:Nat)(u:Int)(w:World)(h:IntAt w g o u):
  Calls Tryz.prog 172 #[.pointer (some ⟨g,o,none⟩)] w (qd4 u.natAbs w):=by
 obtain⟨w0,a2⟩:=yx (w.alloc (.cells #[.slice none 0 0] 28));have hC:Ctx w [(w.heap.size,28,[.slice none 0 0])] w0:=by rw[a2];exact(Ctx.nil w).new _ _ rfl
 have HP:=vv (B.Words_ g o u w0 (h.below hC.low));have HC:=vv hC;have HW:=vv a2;clear h hC a2;go_enter Tryz.func172,Tryz.ntmps172
 go_wp2_with fail
 rw[<- HW.o];refine HP.o.mono ?_;rintro e w1 ⟨A,n,c,rfl,hr,hz,hB⟩;have a1:=vv (HC.o.step hB);have c0:=a1.o.get 0 rfl |>.cell 0;have fz:=a1.o.get 0 rfl |>.fz 0;have lt:=a1.o.get 0 rfl |>.lt;simp only[List.getElem?_cons_zero] at c0;have a3:Hid (Rd (w1.setCell ⟨w.heap.size,0,none⟩ (.slice A n c)) A n c (toL u.natAbs)):=vv (hr.other _ _ _ (fun a e=>by have:=(hz a e).2;have:=HC.o.get 0 rfl |>.lt;omega));have a4:Hid (Below w.heap.size w (w1.setCell ⟨w.heap.size,0,none⟩ (.slice A n c))):=vv (a1.o.low.setCell lr _);have a0:(w1.setCell ⟨w.heap.size,0,none⟩ (.slice A n c)).cell? ⟨w.heap.size,0,none⟩=some (.slice A n c):=q0r c0;clear hB hr hz;go_wp2;exact bodyPost_ret (v:=q1u A n c) (by simp [results,Tryz.results172,go_sem,a0]) rfl ⟨A,n,c,rfl,a3.o,a4.o⟩
theorem q7i(g o:Nat)(u:Int)(w:World)(h:IntAt w g o u)(hb:bl u.natAbs<=524288):
  Calls Tryz.prog 169 #[.pointer (some ⟨g,o,none⟩)] w fun e w'=>e=.returned (.bool false)/\w=w':=
 (qe6 g o u w h (by omega)).mono fun e w' ⟨h1,h2⟩=>⟨by rw[h1,decide_eq_false (by omega)],h2⟩
def OfP(neg:Bool)(N D:Nat)(w:World)(e:Ending)(w':World):Prop:=
 ∃A n c B m d,e=.returned (.tuple #[q1b neg A n c B m d,.int .i64 0])/\Rd w' A n c (toL N)/\Rd w' B m d (toL D)/\Below w.heap.size w w'
theorem Of(g:Nat)(p:Int)(d:Nat)(w:World)(h:RatAt w g p d)(h1:bl (lp p d).natAbs<=524288)(h2:bl (ld p d)<=524288):
  Calls Tryz.prog 76 #[.pointer (some ⟨g,0,none⟩)] w (OfP (decide (p<0)) (lp p d).natAbs (ld p d) w):=by
 obtain⟨w0,a2⟩:=yx (w.alloc (.cells #[.bool false,.slice none 0 0,.slice none 0 0] 115));have hC:Ctx w [(w.heap.size,115,[.bool false,.slice none 0 0,.slice none 0 0])] w0:=by rw[a2];exact(Ctx.nil w).new _ _ rfl
 have a3:=vv fun w' (hb:Below w.heap.size w w')=>B.Num g p d w' (h.below hb)
 have a4:=vv fun w' (hb:Below w.heap.size w w')=>B.Denom g p d w' (h.below hb)
 have b1:=vv fun w' (hb:Below w.heap.size w w')=>B.RSign g p d w' (h.below hb)
 obtain⟨N,hN⟩:=yx (lp p d);obtain⟨D,hD⟩:=yx (ld p d);obtain⟨s,hs⟩:=yx (p.sign);have ht:decide (s<0)=decide (p<0):=by
  have:(s<0)=(p<0):=by rw[hs];exact propext Int.sign_neg_iff
  simp only[this]
 rw[<- hN] at a3 h1;rw[<- hD] at a4 h2;rw[<- hs] at b1;rw[<- hN,<- hD];obtain⟨t,b2⟩:∃t,t=decide (p<0):=⟨_,rfl⟩;rw[<- b2] at ht ⊢;have b9:=vv fun g1 w' (hi:IntAt w' g1 0 N)=>q7i g1 0 _ w' hi h1
 have c0:=vv fun g1 w' (hi:IntAt w' g1 0 (D:Int))=>q7i g1 0 _ w' hi (by rw[Int.natAbs_natCast];exact h2)
 have c1:=vv fun g1 w' (hi:IntAt w' g1 0 N)=>NatW g1 0 _ w' hi
 have a1:=fun g1 w' (hi:IntAt w' g1 0 (D:Int))=>NatW g1 0 _ w' hi
 simp only[Int.natAbs_natCast] at a1;have a1:=vv a1;have HT:=vv ht;have HC:=vv hC;have HW:=vv a2;clear h hC a2 h1 h2 hN hD hs ht b2;go_enter Tryz.func76,Tryz.ntmps76
 go_wp2_with fail
 rw[<- HW.o];refine(a3.o _ HC.o.low).mono ?_;rintro e w1 ⟨g1,rfl,d2,b3,hB⟩;have b4:=vv (HC.o.step hB);have c2:=vv b3;clear hB b3;go_wp2_with fail
 refine(b9.o _ _ c2.o).mono ?_;rintro e w' ⟨rfl,rfl⟩;go_wp2_with fail
 refine(a4.o _ b4.o.low).mono ?_;rintro e w2 ⟨g2,rfl,d3,b5,hB⟩;have a5:=vv (b4.o.step hB);have c3:=vv b5;clear hB b5;go_wp2_with fail
 refine(c0.o _ _ c3.o).mono ?_;rintro e w' ⟨rfl,rfl⟩;go_wp2_with fail
 refine(b1.o _ a5.o.low).mono ?_;rintro e w' ⟨rfl,rfl⟩;go_wp2_with fail
 refine(a3.o _ a5.o.low).mono ?_;rintro e w3 ⟨g3,rfl,d4,b6,hB⟩;have c4:=vv (a5.o.step hB);have c5:=vv b6;clear hB b6;go_wp2_with fail
 refine(c1.o _ _ c5.o).mono ?_;rintro e w4 ⟨A,n,c,rfl,hA,hB⟩;have b7:=vv (c4.o.step hB);have c6:=vv hA;clear hB hA;go_wp2_with fail
 refine(a4.o _ b7.o.low).mono ?_;rintro e w5 ⟨g5,rfl,d5,b8,hB⟩;have c7:=vv (b7.o.step hB);have c8:=vv (c6.o.below hB rfl);have c9:=vv b8;clear hB b8;go_wp2_with fail
 refine(a1.o _ _ c9.o).mono ?_;rintro e w6 ⟨B,m,b,rfl,hQ,hB⟩;have a6:=vv (c7.o.step hB);have d0:=vv (c8.o.below hB rfl);have d1:=vv hQ;have a7:=vv (a6.o.get 0 rfl);rw[HT.o];clear hB hQ;go_wp2_with (with_reducible refine q07 rfl 115 (.tmp 2) (.tmp 22) rfl w.heap.size [.bool t,.slice A n c,.slice B m b] rfl rfl 115 _ a7.o (by kernel_rfl) rfl rfl ?_)
 intro w10 hB a0;have a8:=vv (q0a a6.o.low a0 a6.o.low.size lr);have a9:=vv (d0.o.else_ a7.o rfl a0);have b0:=vv (d1.o.else_ a7.o rfl a0);obtain⟨k0,k1,k2⟩:=Fms.blk3 hB;have K:=vv (And.intro k0 (And.intro k1 k2));clear hB a0 k0 k1 k2;go_wp2;obtain⟨k0,k1,k2⟩:=K.o;exact bodyPost_ret (v:=.tuple #[q1b t A n c B m b,.int .i64 0]) (by simp [results,Tryz.results76,go_sem,k0,k1,k2]) rfl ⟨A,n,c,B,m,b,rfl,a9.o,b0.o,a8.o⟩
end Go.Proofs.YtppgcnhlpnmieaaGreatDoor.R2
