/- Lemmas. -/
import Derived.Test.YtabcgemembkkcaaGreatDoorDigsAV
set_option linter.all false
set_option maxHeartbeats 2000000
set_option maxRecDepth 100000
open Go.Proofs.Tryz
open Go.Proofs.Tryz renaming prog->qa
open Option renaming none->qb,some->qd
open Go.RowKit renaming Below->qc
namespace Go.Proofs.YtabcgemembkkcaaGreatDoor
namespace A
open AB
open Go Go.RowKit
theorem SetBytes(g o:Nat)(v:Int)(A:Option Addr)(m c N:Nat)(w:World)(h:IntAt w g o v)(hb:Bd w A m c N)(hm:m<=4294967296):Calls qa 209 #[.pointer (qd ⟨g,o,qb⟩),.slice A m c] w (q0B g o (N:Int) w):=by
 obtain⟨L,T⟩:=yx ((m+3)/4);have I:L<=35184372088832:=by omega
 have b4:(L:Int)<=35184372088832:=by omega
 have a2:((m:Int)+3)/4=(L:Int):=by omega
 have b5:(m:Int)<=4294967296:=by omega
 have b6:=mk L I;have U:=vv h;have J:=vv hb;have HL:=vv T;have H1:Hid (Own (w.alloc (.cells (madeCells #[.int .u32 0] L) 54)) w.heap.size 54 (List.replicate L 0)):=vv (Own.made w L 54);have H3:Hid (qc w.heap.size w (w.alloc (.cells (madeCells #[.int .u32 0] L) 54))):=vv ((Below.refl _ w).alloc lr _);clear h hb T;go_enter func209,ntmps209;go_wp2;clear a2;go_loopw [16] (fun t wr=>∃(i:Nat) (W:List Nat),t=.int .i64 i/\i<=m/\Own wr w.heap.size 54 W/\W.length=L/\val W=hi N (m-i)/\qc w.heap.size w wr) (fun t _=>m-(intOf t).toNat)
 case atStart=>exact⟨0,List.replicate L 0,rfl,k0x _,H1.o,k0H,by rw[q0d,Nat.sub_zero,qa8 J.o.lt],H3.o⟩
 case round =>
  obtain⟨i,W,rfl,a3,a,n,d,f⟩:=hrel;have a0:=vv a;have K:=vv n;have V:=vv f;by_cases him:i<m
  ·obtain⟨k,y⟩:=yx (m-1-i);have M:val W=hi N (k+1):=by rw[d];congr 1;omega
   have b7:(m:Int)-1-(i:Int)=(k:Int):=by omega
   obtain⟨b,off,e,O,P⟩:=J.o.cell (by omega);subst e;have Q:=(f.cell (p:=⟨b,off+i,qb⟩) O).trans (P i him);rw[<- y] at Q;obtain⟨q,hq⟩:=yx (k/4);have b8:q<L:=by have:=HL.o;omega
   have u:q<W.length:=by omega
   have b9:(k:Int)/4=(q:Int):=by omega
   have b1:(k:Int)<=4294967296:=by omega
   have b2:(q:Int)<(L:Int):=by omega
   obtain⟨r,hr⟩:=yx (k%4);have c0:(k:Int).tmod 4=(r:Int):=by rw[k0Q (by omega)];omega
   have c1:IntKind.i64.wrap (q:Int)=(q:Int):=by rw[IntKind.wrap_i64];omega
   have c2:(0:Int)<=(q:Int):=by omega
   obtain⟨X,j,z,l⟩:=q4Z a.2 u (show k=4*q+r by omega) (by omega) M;have R:=a.cell u;have c3:=a.frozen q;have c4:=a.lt;have E:=vv (a.set (x:=nth W q+bt N k*256^r) u j rfl);have a4:=qbj N k;obtain⟨C,F⟩:=yx (bt N k);obtain⟨x,hx⟩:=yx (nth W q);rw[<- F,<- hx] at X j l E;rw[<- F] at z a4 Q;rw[<- hx] at R;have c5:IntKind.u32.wrap (C:Int)=(C:Int):=by rw[IntKind.wrap_u32];omega
   obtain⟨D,G⟩:=yx (C*256^r);rw[<- G] at X j z l E;obtain⟨s,Y⟩:=yx (8*r);have c6:IntKind.i64.wrap (8*(r:Int))=(s:Int):=by rw[IntKind.wrap_i64];omega
   have c7:(0:Int)<=(s:Int):=by omega
   have b3:(s:Int)<=32:=by omega
   have c8:IntKind.u32.wrap ((C:Int)*2^s)=(D:Int):=by
    have e:(C:Int)*2^s=(D:Int):=by
     have e2:(2:Int)^s=((256^r:Nat):Int):=by rw[Y,k0C,Int.pow_mul];rfl
     rw[e2,G,k0f]
    rw[e,IntKind.wrap_u32];omega
   have a5:Hid (hi N k=hi N (m-(i+1))):=vv (by rw[y];congr 1;omega);have a6:=vv l;clear O P f a M d n hr hq y F hx G Y j z l;go_wp2;refine q02 (fun Z=>Z.cell? ⟨w.heap.size,q,qb⟩=qd (.int .u32 (x:Int))) 13
    (.still 0 (.still 1 (.still 2 (.still 3 (.still 4 (.still 5 (.still 6 (.still 7 (.still 8 (.still 9 (.still 10 (.still 11 (.still 12 .done))))))))))))) R (fun c9=>?_)
   iterate 13
    refine q03 ?_
   refine q08 ?_;go_wp2;go_roundw
   case rel =>exact⟨i+1,W.set q (x+D),by go_num,by omega,E.o,by rw[k0c];exact K.o,a6.o.trans a5.o,(V.o.drew).setCell lr _⟩
   case measure=>simp [intOf];omega
  ·obtain rfl:i=m:=by omega
   rw[Nat.sub_self,q81] at d;have a7:=vv d;have a8:=vv (U.o.below (f.mono lr));have a1:(i:Int)<=(i:Int):=Int.le_refl _;clear a d n f him a3 a1;go_wp2_with fail;refine(trim (qd ⟨w.heap.size,0,qb⟩) L L W wr (a0.o.rd K.o.symm lr I)).mono ?_;rintro e Z ⟨m',rfl,rfl,H⟩;rw[a7.o] at H;have HR:=vv H;have S:=vv (SetWords g o v _ _ _ (toL N) wr a8.o HR.o);rw[q04] at S;clear H;go_wp2_with fail;refine S.o.mono ?_;rintro e w3 ⟨rfl,hI,hF⟩;have a9:=vv hI;have b0:=vv (Fm.trans (Fm.of_below V.o U.o.lt) hF);clear hI hF;go_wp2;go_ret;exact⟨rfl,a9.o,b0.o⟩
end A
namespace A
open AB
open Go Go.RowKit
theorem qew:(Tryz.prog.info? 5).map (fun i=>(i.zero,i.size,i.bytes))=qd (qd (.int .u8 0),1,1):=by kernel_rfl
theorem mk8(n:Nat)(h:n<=35184372088832)(w:World):(Instr.makeSlice 229 (.int .i64 (n:Int)) (.int .i64 (n:Int))).run qa w=.ok (.slice (qd ⟨w.heap.size,0,qb⟩) n n) (w.alloc (.cells (madeCells #[.int .u8 0] n) 5)):=run_make_row' (P:=qa) 229 5 (.int .u8 0) 1 underlying229 qew rfl .i64 .i64 n (by omega) (by omega) w
theorem lt_bytes(N:Nat):N<256^((bl N+7)/8):=by
 have h:(256:Nat)^((bl N+7)/8)=2^(8*((bl N+7)/8)):=by rw[k1r]
 rw[h];exact k03 (q0O N) (k00 (by decide) (by omega))
theorem bl_words(N:Nat):bl N<=32*words N:=q0A (by have h:=q0p N;rwa [show(4294967296:Nat)^words N=2^(32*words N) by rw[k1r]] at h)
theorem Bytes(g o:Nat)(u:Int)(w:World)(h:IntAt w g o u)(sN:bl u.natAbs<=4294967296):Calls qa 287 #[.pointer (qd ⟨g,o,qb⟩)] w fun e w'=>∃A m,e=.returned (.slice A m m)/\m=(bl u.natAbs+7)/8/\Bd w' A m m u.natAbs/\qc w.heap.size w w':=by
 have v:=vv fun w' (h:IntAt w' g o u)=>BitLen g o u w' h
 obtain⟨N,R⟩:=yx (u.natAbs);have F:=h.lt;obtain⟨A,n,c,h0,h1,d,hz⟩:=h.ex;rw[<- R] at v sN d ⊢;obtain⟨m,S⟩:=yx ((bl N+7)/8);have Y:bl N<=32*n:=by have:=bl_words N;rwa [d.words] at this
 have y:=lt_bytes N;rw[<- S] at y ⊢;have G:m<=35184372088832:=by omega
 have b3:=mk8 m G;have H:((bl N:Int)+7)/8=(m:Int):=by omega
 obtain⟨b0,I⟩:=yx (bl N);rw[<- I] at v H sN;have b4:(b0:Int)<=4294967296:=by omega
 have b5:(m:Int)<=1000000000:=by omega
 have J:m<=4*n:=by omega
 have HI:=vv h;have T:=vv d;have Z:=vv y;have a1:=vv J;have H1:Hid (q28 (w.alloc (.cells (madeCells #[.int .u8 0] m) 5)) w.heap.size 5 (List.replicate m 0)):=vv (q28.made w m 5);have H3:Hid (qc w.heap.size w (w.alloc (.cells (madeCells #[.int .u8 0] m) 5))):=vv ((Below.refl _ w).alloc lr _);clear h d hz S Y y J R I;go_enter func287,ntmps287;go_wp2_with fail;refine(v.o _ HI.o).mono ?_;rintro e w' ⟨rfl,rfl⟩;go_wp2;clear H;go_loopw [13] (fun t wr=>∃(i:Nat) (U:List Nat),t=.int .i64 i/\i<=m/\q28 wr w.heap.size 5 U/\U.length=m/\(∀j,j<i->nth U j=bt N (m-1-j))/\qc w.heap.size w wr) (fun t _=>m-(intOf t).toNat)
 case atStart=>exact⟨0,List.replicate m 0,rfl,k0x _,H1.o,k0H,fun j hj=>absurd hj (by omega),H3.o⟩
 case round =>
  obtain⟨i,U,rfl,K,a,z,D,f⟩:=hrel;have a0:=vv a;have L:=vv z;have M:=vv D;have V:=vv f;by_cases him:i<m
  ·obtain⟨k,W⟩:=yx (m-1-i);have b6:(m:Int)-1-(i:Int)=(k:Int):=by omega
   obtain⟨q,hq⟩:=yx (k/4);have a2:q<n:=by have:=a1.o;omega
   obtain⟨b,off,e,O,P⟩:=T.o.cell (by omega);subst e;have a3:=(f.cell (p:=⟨b,off+q,qb⟩) O).trans (P q a2);have j1:=(f.cell (p:=⟨g,o+1,qb⟩) F).trans h1;have a6:g<wr.heap.size:=k03 F f.size;have b7:(k:Int)/4=(q:Int):=by omega
   obtain⟨r,d⟩:=yx (k%4);have a4:(k:Int)%4=(r:Int):=by omega
   have a7:(k:Int).tmod 4=(r:Int):=by rw[k0Q (by omega)];exact a4
   have b8:(r:Int)<=3:=by omega
   have a8:(q:Int)<(n:Int):=by omega
   have Q:nth (toL N) q<4294967296:=T.o.nth_lt q;have l:=q21 (q1H N) q r (by omega);rw[q04,show 4*q+r=k by omega] at l;obtain⟨x,hx⟩:=yx (nth (toL N) q);obtain⟨C,E⟩:=yx (bt N k);rw[<- hx] at a3 Q l;rw[<- E] at l;obtain⟨s,X⟩:=yx (8*r);have b9:8*(r:Int)=(s:Int):=by omega
   have a9:(s:Int)<=24:=by omega
   have c0:(x:Int)/2^s%256=(C:Int):=by
    have e2:(2:Int)^s=((256^r:Nat):Int):=by rw[X,k0C,Int.pow_mul];rfl
    rw[e2,<- l,k1x,k1n];rfl
   have c1:=a.cell (i:=i) (by omega);have c2:=a.frozen i;have c3:=a.lt;have HS:=vv (a.set (i:=i) (x:=C) (by omega) rfl);have a5:Hid (∀j,j<i+1->nth (U.set i C) j=bt N (m-1-j)):=vv (fun j hj=>by
    rw[q0H U i C j (by omega)];split
    ·rename_i e;rw[e,E,W]
    ·exact M.o j (by omega))
   have c4:(x:Int)<=4294967295:=by omega
   have b1:(k:Int)<=1000000000:=by omega
   have b2:(i:Int)<(m:Int):=by omega
   clear O P f a D z d hq W E hx X l Q K him;go_wp2;go_roundw
   case rel=>exact⟨i+1,U.set i C,by go_num,by omega,HS.o,by rw[k0c];exact L.o,a5.o,(V.o).setCell lr _⟩
   case measure=>simp [intOf];omega
  ·obtain rfl:i=m:=by omega
   clear a z D f him K;go_wp2;go_ret;exact⟨_,_,rfl,rfl,a0.o.bd L.o.symm lr G Z.o M.o,V.o⟩
end A
namespace A
open AB
open Go Go.RowKit
def Mul:=@AB.Mul 94
def added_same:=@AB.added_same 335
def added_ge:=@AB.added_ge 335
def added_lt:=@AB.added_lt 335
def added:=@AB.added 335
end A
namespace A
open AB
open Go Go.RowKit
def Add:=@AB.Add 292
def Sub:=@AB.Sub 319
def Lsh:=@AB.Lsh 172
def Uint64:=@AB.Uint64 269
def NewInt:=@AB.NewInt 93
end A
namespace A
open AB
open Go Go.RowKit
def Cmp_ff:=@AB.Cmp_ff 204
def Cmp_tt:=@AB.Cmp_tt 204
def Cmp_ne:=@AB.Cmp_ne 204
def Cmp:=@AB.Cmp 204
def Bit0:=@AB.Bit0 320
end A
namespace A
open AB
open Go Go.RowKit
def QuoRem:=@AB.QuoRem 318
def DivMod_up:=@AB.DivMod_up 260
def DivMod_low:=@AB.DivMod_low 260
def DivMod:=@AB.DivMod 260
def Div:=@AB.Div 231
end A
namespace A
open AB
open Go Go.RowKit
def Exp:=@AB.Exp 92
end A
namespace A
open AB
open Go Go.RowKit
def Exp0:=@AB.Exp0 92
end A
namespace A
open AB
open Go Go.RowKit
def below:=@AB.below 279
def SetInt:=@AB.SetInt 228
def Num:=@AB.Num 211
def Denom:=@AB.Denom 203
def RSign:=@AB.RSign 212
end A
namespace A
open AB
open Go Go.RowKit
def Rset_zero:=@AB.Rset_zero 214
def Rset_pos:=@AB.Rset_pos 214
end A
namespace A
open AB
open Go Go.RowKit
def Rset:=@AB.Rset 214
def SetFrac:=@AB.SetFrac 122
def SetInt64R:=@AB.SetInt64R 220
end A
namespace A
open AB
open Go Go.RowKit
def Inv:=@AB.Inv 229
def times_zero:=@AB.times_zero 298
def times_pos:=@AB.times_pos 298
def times:=@AB.times 298
end A
namespace A
open AB
open Go Go.RowKit
def MulR:=@AB.MulR 230
end A
namespace A
open AB
open Go Go.RowKit
def added_:=@AB.added_ 221
def sub_:=@AB.sub_ 221
def SubR:=@AB.SubR 131
end A
namespace A
open AB
open Go Go.RowKit
def cmp_mix:=@AB.cmp_mix 205
def cmp_pos:=@AB.cmp_pos 205
def CmpS:=@AB.CmpS 205
def CmpR:=@AB.CmpR 205
end A
namespace AB
open Go Go.RowKit
theorem add_r{fq:FuncId}(g gx gy:Nat)(m n:Int)(P Q:Nat)(w:World)(h:RatSh w g)(hx:RatAt w gx m P)(hy:RatAt w gy n Q)(hm:Nat.gcd m.natAbs P=1)(hn:Nat.gcd n.natAbs Q=1)(hst:Std w)(sp:Sm m.natAbs)(sd:Sm P)(sq:Sm n.natAbs)(se:Sm Q)(hq:fq=221\/fq=171:=by decide):Calls qa fq #[.pointer (qd ⟨g,0,qb⟩),.pointer (qd ⟨gx,0,qb⟩),.pointer (qd ⟨gy,0,qb⟩),.bool false] w (q2I g (m*Q+n*P) (P*Q) w):=added_ (hq:=hq) g gx gy m n n false P Q w h hx hy hm hn hst sp sd sq se rfl
theorem AddR{fq:FuncId}(g gx gy:Nat)(p q:Int)(d e':Nat)(w:World)(h:RatSh w g)(hx:RatAt w gx p d)(hy:RatAt w gy q e')(hst:Std w)(sp:Sm p.natAbs)(sd:Sm d)(sq:Sm q.natAbs)(se:Sm e')(hq:fq=300\/fq=86:=by decide):Calls qa fq #[.pointer (qd ⟨g,0,qb⟩),.pointer (qd ⟨gx,0,qb⟩),.pointer (qd ⟨gy,0,qb⟩)] w (q2I g (p*e'+q*d) (d*e') w):=by
 have a:Hid ((lp p d*↑(ld q e')+lp q e'*↑(ld p d))*((d*e':Nat):Int)=(p*e'+q*d)*((ld p d*ld q e':Nat):Int)):=by
  have c1:=q0N p d;have c2:=q0N q e';refine vv ?_;simp only[k0f]
  calc (lp p d*↑(ld q e')+lp q e'*↑(ld p d))*(↑d*↑e')=(lp p d*d)*↑(ld q e')*e'+(lp q e'*e')*↑(ld p d)*d:=by grind
   _=(p*ld p d)*↑(ld q e')*e'+(q*ld q e')*↑(ld p d)*d:=by rw[c1,c2]
   _=_:=by grind
 have b:=vv (k0N hx.pos hy.pos);have c:=vv fun fq hq=>add_r (fq:=fq) (hq:=hq) g gx gy (lp p d) (lp q e') (ld p d) (ld q e') w h (hx.cross (q1q hx.pos) (q0N p d).symm) (hy.cross (q1q hy.pos) (q0N q e').symm) (q2j hx.pos) (q2j hy.pos) hst (sp.mono (q2M _ _)) (sd.mono (q33 _ _)) (sq.mono (q2M _ _)) (se.mono (q33 _ _))
 clear h hx hy hst sp sd sq se;rcases hq with rfl|rfl;go_enter func300,ntmps300;rotate_left;go_enter func86,ntmps86;rotate_left;all_goals
  go_wp2_with fail;refine(c.o _ (by decide)).mono ?_;rintro e k ⟨rfl,f,i⟩;have j:=vv f;go_wp2;go_ret;exact⟨rfl,j.o.cross b.o a.o,i⟩
end AB
namespace A
open AB
open Go Go.RowKit
def add_r:=@AB.add_r 221
def AddR:=@AB.AddR 300
end A
namespace B
open AB
open Go Go.RowKit
theorem IsInt(g:Nat)(p:Int)(d:Nat)(w:World)(h:RatAt w g p d):Calls qa 161 #[.pointer (qd ⟨g,0,qb⟩)] w fun e w'=>e=.returned (.bool (decide (ld p d=1)))/\w=w':=by
 have y:=h.lt;have a:=q1q (p:=p) h.pos;obtain⟨A,n,c,e,⟨j,u⟩⟩:=h.den;obtain⟨D,q⟩:=yx (ld p d);rw[<- q] at j a ⊢;clear h u q;rcases j with ⟨rfl,j⟩|⟨k,f⟩
 ·subst j;clear a;go_enter func161,ntmps161;go_wp2;go_ret;exact⟨rfl,rfl⟩
 ·have z:=f.sm;have i:=f.len;have C:((n:Int)==0)=false:=by simp;omega
  by_cases h1:n=1
  ·subst h1;obtain⟨b,off,rfl,E,r⟩:=f.cell k;have l:=r 0 k;rw[k1u] at l;have hx:nth (toL D) 0=D:=by
    have s:=q25 a;have v:toL (D/4294967296)=[]:=by rw[s] at i;exact k1L.1 (by simpa using i)
    have F:=q2c.1 v;rw[s];show D%4294967296=D;omega
   rw[hx] at l;have x:(((D:Nat):Int)==1)=decide (D=1):=by
    by_cases h:D=1
    ·subst h;rfl
    ·rw[k02 h,k05];omega
   obtain⟨t,m⟩:=yx (decide (D=1));rw[<- m] at x ⊢;clear r f i hx m a k;go_enter func161,ntmps161;go_wp2;go_ret;exact⟨rfl,rfl⟩
  ·have o:decide (D=1)=false:=by
    refine k02 fun h=>h1 ?_
    rw[<- i,h];rfl
   have G:((n:Int)==1)=false:=by rw[k05];omega
   rw[o];clear f i a o h1;go_enter func161,ntmps161;go_wp2;go_ret;exact⟨rfl,rfl⟩
end B
namespace B
open AB
open Go Go.RowKit
def add_r:=@AB.add_r 171
def AddR:=@AB.AddR 86
end B
namespace B
open AB
open Go Go.RowKit
theorem SetUint64(g o:Nat)(v:Int)(k:Nat)(w:World)(h:IntAt w g o v)(hk:k<18446744073709551616):Calls qa 82 #[.pointer (qd ⟨g,o,qb⟩),.int .u64 (k:Int)] w (q0B g o (k:Int) w):=by have b:=vv h;have j:=vv (fromUint k w hk);clear h hk;go_enter func82,ntmps82;go_wp2_with fail;refine j.o.mono ?_;rintro e q ⟨A,m,c,rfl,d,i,f⟩;have l:=vv d;clear d;go_wp2_with fail;refine(set_of g o v k _ A m c k _ (b.o.below f) l.o (fun a e=>(i a e).2) rfl (q2U (by omega))).mono ?_;rintro e r ⟨rfl,n,p⟩;go_wp2;go_ret;exact⟨rfl,n,(Fm.of_below f b.o.lt).trans p⟩
end B
namespace R5
open Go Go.RowKit
theorem qeJ(neg:Bool)(A:Option Addr)(n c:Nat)(B':Option Addr)(m d N D:Nat)(w:World)(ha:Rd w A n c (toL N))(hb:Rd w B' m d (toL D))(hN:Sz N)(hDs:Sz D)(hD:0<D)(hst:Std w):Calls qa 29 #[q0m neg A n c B' m d] w (q2Q (sg neg N) D w):=by
 obtain⟨w0,G⟩:=yx (w.alloc (.cells #[.bool neg,.slice A n c,.slice B' m d] 39));have Z:qc w.heap.size w w0:=by rw[G];exact(Below.refl _ w).alloc lr _
 have x:RatioBox w0 w.heap.size neg A n c B' m d:=by rw[G];exact RatioBox.made w _ _ _ _ _ _ _ _
 have i:=vv x;have t:=vv Z;have a5:=vv G;have a6:=vv hst;have a7:=vv hN;have a8:=vv hDs;have a9:=vv hD;have HI:=vv fun j (h:qc w.heap.size w j)=>qei A n c (toL N) j (ha.below h rfl)
 have I:=vv fun j (h:qc w.heap.size w j)=>qei B' m d (toL D) j (hb.below h rfl)
 rw[q04] at HI I;have V:=x.c0;have f1:=x.c1;have J:=x.lt;clear ha hb hst G Z x hN hDs hD;go_enter func29,ntmps29;go_wp2_with fail;rw[<- a5.o];refine(HI.o _ t.o).mono ?_;rintro e w1 ⟨k,rfl,b5,a2,K⟩;have i:=vv (i.o.below K);have t:=vn t K;have H:=vv a2;have b6:=t.o.size;have b4:w.heap.size<k:=by omega
 clear K a2 V f1 J;have V:=i.o.c0;have J:=i.o.lt;have fin:∀wc,qc w.heap.size w wc->RatioBox wc w.heap.size neg A n c B' m d->IntAt wc k 0 (sg neg N) ->∃a b,a=wc.alloc q5o/\b=wc.heap.size/\RatAt a b 0 1/\IntAt a k 0 (sg neg N)/\RatioBox a w.heap.size neg A n c B' m d/\qc w.heap.size w a/\w.heap.size<=b:=by intro wc hb hx hi;obtain⟨z1,W⟩:=q4j wc;exact⟨_,_,rfl,rfl,z1,hi.below W,hx.below W,hb.trans (W.mono hb.size),hb.size⟩
 have a3:=vv fin;have a0:∀a b,RatAt a b 0 1->IntAt a k 0 (sg neg N)->qc w.heap.size w a->w.heap.size<=b->∀l p,qc a.heap.size a l->IntAt l p 0 ((D:Nat):Int) ->Calls qa 78 #[.pointer (qd ⟨b,0,qb⟩),.pointer (qd ⟨k,0,qb⟩),.pointer (qd ⟨p,0,qb⟩)] l fun e j=>e=.returned (.pointer (qd ⟨b,0,qb⟩))/\RatAt j b (sg neg N) D/\qc w.heap.size w j:=by intro a b u hi hb v l p L b0;have M:=hb.trans (L.mono hb.size);refine(B.SetFrac b k p (sg neg N) D l (u.below L).sh (hi.below L) b0 a9.o (a6.o.fs (Fs.of_nil M)) (by rw[q0Z];exact a7.o) a8.o).mono ?_;rintro e j g;exact⟨g.1,g.2.1,g.below M M.size v⟩
 have a1:=vv a0;clear fin a0;cases neg
 ·obtain⟨a,b,r,y,u,hi,hx,hb,v⟩:=a3.o w1 t.o i.o H.o;have f2:=hx.c2;have O:=hx.lt;rw[r] at f2 O;have P:=vv r;have Q:=vv y;have X:=vv u;have R:=vv hi;have s:=vv hb;clear r y u hi hx hb;go_wp2_with fail;rw[<- P.o,<- Q.o];refine(I.o _ s.o).mono ?_;rintro e l ⟨p,rfl,b1,z,C⟩;have S:=vv z;have T:=vv C;clear z C;go_wp2_with fail;refine(a1.o a b X.o R.o s.o v l p T.o S.o).mono ?_;rintro e w4 ⟨rfl,F,E⟩;have Y:=vv F;have U:=vv E;clear F E;go_wp2;go_ret;exact⟨_,rfl,v,Y.o,U.o⟩
 ·go_wp2_with fail;refine(B.Neg k 0 k 0 _ _ _ H.o H.o).mono ?_;rintro e a g;have g:=g.f H.o;have a4:RatioBox a w.heap.size true A n c B' m d:=⟨(g.2.2.cell w.heap.size 0 i.o.lt fun q hq e=>by rw[k09.1 hq] at e;simp only at e;omega).trans i.o.c0,(g.2.2.cell w.heap.size 1 i.o.lt fun q hq e=>by rw[k09.1 hq] at e;simp only at e;omega).trans i.o.c1,(g.2.2.cell w.heap.size 2 i.o.lt fun q hq e=>by rw[k09.1 hq] at e;simp only at e;omega).trans i.o.c2,k03 i.o.lt g.2.2.size⟩;have b2:=vv a4;have b3:Hid (IntAt a k 0 (sg true N)):=vv g.2.1;have s:=vv (g.below t.o t.o.size (by omega));obtain⟨rfl,-,-⟩:=g;clear a4 V J;obtain⟨b7,b,r,y,u,hi,hx,hb,v⟩:=a3.o a s.o b2.o b3.o;have f2:=hx.c2;have O:=hx.lt;rw[r] at f2 O;have P:=vv r;have Q:=vv y;have X:=vv u;have R:=vv hi;have s:=vv hb;clear r y u hi hx hb;go_wp2_with fail;rw[<- P.o,<- Q.o];refine(I.o _ s.o).mono ?_;rintro e l ⟨p,rfl,b1,z,C⟩;have S:=vv z;have T:=vv C;clear z C;go_wp2_with fail;refine(a1.o _ b X.o R.o s.o v l p T.o S.o).mono ?_;rintro e w4 ⟨rfl,F,E⟩;have Y:=vv F;have U:=vv E;clear F E;go_wp2;go_ret;exact⟨_,rfl,v,Y.o,U.o⟩
end R5
end Go.Proofs.YtabcgemembkkcaaGreatDoor
