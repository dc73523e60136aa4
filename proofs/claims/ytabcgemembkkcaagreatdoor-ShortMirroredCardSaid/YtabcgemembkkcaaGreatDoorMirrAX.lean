/- Lemmas. -/
import Derived.Maps.AppendAt
import Derived.Test.YtabcgemembkkcaaGreatDoorMirrAW
set_option linter.all false
set_option maxHeartbeats 4000000
set_option maxRecDepth 100000
open Go.Proofs.Tryz
open Decidable renaming decide->qa
open Go renaming RowKit.Below.refl->qb,World->qf,heap_alloc_new->qg,bodyPost_ret->qk,Calls->ql,Addr->qn,IntKind.wrap_i64->qo,IntKind.wrap_u32->qp,Value->qq
open Option renaming none->qc,some->qh
open Go.Proofs.Tryz renaming prog->qd
open Bool renaming false->qe,true->qj
open Go.RowKit renaming Below->qi,Hid->qm
namespace Go.Proofs.YtabcgemembkkcaaGreatDoor
variable{w w':qf}{n j g c k:Nat}{xs:List Nat}{E F x:Int}{neg:Bool}{s:ByteArray}
section
open Go Go.RowKit
theorem q70{base:Nat}{e:TypeId}{v:qq}{U:List Nat}(h:w.ownsRow base e 1 v n (q0q U))(hl:Lim U)(hn:n<=35184372088832):∃A c,v=.slice A n c/\Rd w A n c U/\Fr base A:=by
 have a:U.length=n:=by have:=h.1;simpa [q0q] using this
 rcases h.2 with ⟨rfl,rfl⟩|⟨g,cap,m,rfl,f,b,k,o,p,l⟩
 ·have:U=[]:=List.length_eq_zero_iff.1 a;subst this;exact⟨qc,0,rfl,Rd.nil _,Fr.none_ _⟩
 ·refine⟨_,cap,rfl,⟨a,k,hn,hl,fun _=>⟨g,0,rfl,(Array.getElem?_eq_some_iff.1 b).1,fun j hj=>?_⟩⟩,Fr.at_ f⟩;have d:=q28 U (i:=j) (by omega);rw[<- l,k0A,List.getElem?_take,k0n hj] at d;simp only[World.cell?,b,k0U];rw[<- d];simp
end
namespace R1
open Go Go.RowKit
theorem qdo(A:Option qn)(n c:Nat)(xs:List Nat)(w:qf)(hr:Rd w A n c xs):ql qd 306 #[.slice A n c] w (AB.TrimPost A c xs w):=by
 have q:=hr.sm;have r:=hr.len;have s:=hr.le;go_enter func306,ntmps306;go_wp2;go_loop [3] (fun t=>∃k:Nat,k<=n/\t=.int .i64 k/\∀i,k<=i->nth xs i=0) (fun t=>(intOf t).toNat)
 case atStart=>exact⟨n,lr,rfl,fun i hi=>q1b xs i (by omega)⟩
 case round =>
  obtain⟨k,v,rfl,d⟩:=hrel;have fin:∀m,m<=n->(∀i,m<=i->nth xs i=0)->(m=0\/nth xs (m-1)≠0)->Rd w A m c (toL (val xs)):=by intro m p a f;have e:=q23 hr.lim (n:=m) a (f.imp id fun h=>⟨by omega,h⟩);rw[<- e];exact hr.take p
  have j:=vv fin;clear fin;rcases k01 k with rfl|u
  ·go_wp2;go_ret;exact⟨0,rfl,rfl,j.o 0 (k0x _) d (.inl rfl)⟩
  ·obtain⟨m,rfl⟩:∃m,k=m+1:=⟨k-1,by omega⟩;obtain⟨b,off,rfl,x,l⟩:=hr.cell (by omega);have hx:=l m (by omega);clear l;by_cases a:nth xs m=0
   ·have f:(((nth xs m:Nat):Int)==0)=qj:=by rw[a];rfl
    have g:=vv a;clear a;go_wp2;go_round
    case rel=>exact⟨m,by omega,by go_num,fun i hi=>by
     rcases k1I hi with rfl|h
     ·exact g.o
     ·exact d i (by omega)⟩
    case measure=>simp [intOf]
   ·have f:(((nth xs m:Nat):Int)==0)=qe:=by rw[k09];omega
    have g:=vv a;clear a;go_wp2;go_ret;exact⟨m+1,rfl,rfl,j.o _ (by omega) d (.inr g.o)⟩
end R1
section
open Go Go.RowKit
def dv(l:List UInt8):Nat:=l.foldl (fun a c=>10*a+(c.toNat-48)) 0
theorem q56(l:List UInt8)(c:UInt8):dv (l++[c])=10*dv l+(c.toNat-48):=by simp [dv,List.foldl_append]
theorem qaq(l:List UInt8):∀a,l.foldl (fun a c=>10*a+(c.toNat-48)) a=a*10^l.length+dv l:=by
 induction l with
 | nil=>intro a;simp [dv]
 | cons c l ih =>
  intro a;unfold dv;rw[List.foldl_cons,List.foldl_cons,ih,ih (10*0+(c.toNat-48)),k2t,k0a]
  grind
theorem q7E(l m:List UInt8):dv (l++m)=dv l*10^m.length+dv m:=by unfold dv;rw[List.foldl_append,qaq];rfl
def q86(s:ByteArray):Prop:=∀k (h:k<s.size),48<=s[k].toNat/\s[k].toNat<=57
theorem q4W(s:ByteArray)(k:Nat)(h:k<s.size):s.data.toList.take (k+1)=s.data.toList.take k++[s[k]]:=by rw[k1y (by simpa using h)];rfl
def dvk(s:ByteArray)(k:Nat):Nat:=dv (s.data.toList.take k)
theorem q5O(s:ByteArray):dvk s 0=0:=rfl
theorem q8Z(s:ByteArray)(k:Nat)(h:k<s.size):dvk s (k+1)=10*dvk s k+(s[k].toNat-48):=by unfold dvk;rw[q4W s k h,q56]
theorem q4C(s:ByteArray)(hd:q86 s):∀k,k<=s.size->dvk s k<10^k
 | 0,_=>by simp [q5O]
 | k+1,h=>by have:=q4C s hd k (by omega);have h2:=hd k (by omega);rw[q8Z s k (by omega),k0a];omega
def dvm(s:ByteArray)(i j:Nat):Nat:=dv ((s.data.toList.drop i).take j)
theorem q8Y(s:ByteArray)(i:Nat):dvm s i 0=0:=rfl
theorem q5N(s:ByteArray)(i j:Nat)(h:i+j<s.size):dvm s i (j+1)=10*dvm s i j+(s[i+j].toNat-48):=by
 unfold dvm;have a:j<(s.data.toList.drop i).length:=by rw[k0m];simp;omega
 rw[k1y a,q56,List.getElem_drop];rfl
theorem q7C(s:ByteArray)(hd:q86 s)(i:Nat):∀j,i+j<=s.size->dvm s i j<10^j
 | 0,_=>by simp [q8Y]
 | j+1,h=>by have:=q7C s hd i j (by omega);have h2:=hd (i+j) (by omega);rw[q5N s i j (by omega),k0a];omega
theorem qap(s:ByteArray)(i j:Nat)(h:i+j<=s.size):dvk s (i+j)=dvk s i*10^j+dvm s i j:=by
 unfold dvk dvm;have e:s.data.toList.length=s.size:=k2x;have a:((s.data.toList.drop i).take j).length=j:=by rw[k0t,k0m];omega
 rw[List.take_add,q7E,a]
theorem q7D(s:ByteArray)(hd:q86 s)(k:Nat)(h:k<=s.size):words (dvk s k)<=k:=by refine q0X (k02 (q4C s hd k h) ?_);exact k1C (by omega) k
theorem q5m(h:j<=9):(10:Nat)^j<=1000000000:=k06 (k04 (by omega) h) (by decide)
def tn(j:Nat):Nat:=10^j
theorem q9J(j:Nat):tn (j+1)=10*tn j:=by unfold tn;rw[k0a,k0b]
structure NatCell(w:qf)(g:Nat):Prop where
 c0:w.cell? ⟨g,0,qc⟩=qh (.slice qc 0 0)
 fz:w.frozen? ⟨g,0,qc⟩=qe
 lt:g<w.heap.size
theorem NatCell.made(w:qf)(t:TypeId):NatCell (w.alloc (.cells #[.slice qc 0 0] t)) w.heap.size:=⟨by simp only[World.cell?];rw[qg];rfl,by simp only[World.frozen?];rw[qg];simp,by simp⟩
theorem NatCell.below(h:NatCell w g)(hb:qi w.heap.size w w'):NatCell w' g:=⟨(hb.cell (p:=⟨g,0,qc⟩) h.lt).trans h.c0,(hb.frozen (p:=⟨g,0,qc⟩) h.lt).trans h.fz,k02 h.lt hb.size⟩
theorem Rd.other{A:Option qn}(h:Rd w A n c xs)(g o:Nat)(v:qq)(hf:∀a,A=qh a->a.block≠g):Rd (w.setCell ⟨g,o,qc⟩ v) A n c xs:=h.fm (Fm.set0 (g:=g) (o:=o) w v (.inl rfl)) (fun _=>hf)
end
namespace R1
open Go Go.RowKit
theorem qdb(A:Option qn)(n c:Nat)(w:qf):ql qd 305 #[.slice A n c] w fun e w'=>e=.returned (.agg #[.slice A n c])/\qi w.heap.size w w':=by go_enter func305,ntmps305;go_wp2;exact qk (v:=.agg #[.slice A n c]) (by simp [results,results305,go_sem]) rfl ⟨rfl,by first|exact(qb _ _).alloc lr _|exact((qb _ _).alloc lr _).setCell lr _⟩
end R1
namespace R3
open Go Go.RowKit R5
def formOk(E F:Int):Bool:=qa (2<=E) && qa (E<=11) && qa (1<=F) && qa (F<=52)
def chk(E F:Int):Int:=if formOk E F then 0 else 5
theorem chk_ok(h:formOk E F=qj):chk E F=0:=k0n h
theorem chk_no(h:formOk E F=qe):chk E F=5:=by unfold chk;rw[h];rfl
theorem formOk_nat(h:formOk E F=qj):∃e f:Nat,E=e/\F=f/\2<=e/\e<=11/\1<=f/\f<=52:=by unfold formOk at h;simp only[k0T,k0C] at h;exact⟨E.toNat,F.toNat,by omega,by omega,by omega,by omega,by omega,by omega⟩
theorem Check(E F:Int)(w:qf):ql qd 35 #[fm E F] w fun e w'=>e=.returned (.int .i64 (chk E F))/\qi w.heap.size w w':=by
 by_cases h1:E<2
 ·have a:qm (formOk E F=qe):=vv (by unfold formOk;rw[k00 (p:=2<=E) (by omega)];rfl);have b:qa (E<2)=qj:=k03 h1;clear h1;go_enter func35,ntmps35;go_wp2;go_ret;exact⟨q0U (chk_no a.o).symm,(qb _ _).alloc lr _⟩
 have b:qa (E<2)=qe:=k00 h1;by_cases h2:11<E
 ·have a:qm (formOk E F=qe):=vv (by unfold formOk;rw[k00 (p:=E<=11) (by omega)];simp);have c:qa (11<E)=qj:=k03 h2;clear h1 h2;go_enter func35,ntmps35;go_wp2;go_ret;exact⟨q0U (chk_no a.o).symm,(qb _ _).alloc lr _⟩
 have c:qa (11<E)=qe:=k00 h2;by_cases h3:F<1
 ·have a:qm (formOk E F=qe):=vv (by unfold formOk;rw[k00 (p:=1<=F) (by omega)];simp);have d:qa (F<1)=qj:=k03 h3;clear h1 h2 h3;go_enter func35,ntmps35;go_wp2;go_ret;exact⟨q0U (chk_no a.o).symm,(qb _ _).alloc lr _⟩
 have d:qa (F<1)=qe:=k00 h3;by_cases h4:52<F
 ·have a:qm (formOk E F=qe):=vv (by unfold formOk;rw[k00 (p:=F<=52) (by omega)];simp);have f:qa (52<F)=qj:=k03 h4;clear h1 h2 h3 h4;go_enter func35,ntmps35;go_wp2;go_ret;exact⟨q0U (chk_no a.o).symm,(qb _ _).alloc lr _⟩
 have f:qa (52<F)=qe:=k00 h4;have a:qm (formOk E F=qj):=vv (by unfold formOk;rw[k03 (p:=2<=E) (by omega),k03 (p:=E<=11) (by omega),k03 (p:=1<=F) (by omega),k03 (p:=F<=52) (by omega)];rfl);clear h1 h2 h3 h4;go_enter func35,ntmps35;go_wp2;go_ret;exact⟨q0U (chk_ok a.o).symm,(qb _ _).alloc lr _⟩
def tw(j:Nat):Nat:=2^j
theorem tw_succ(j:Nat):tw (j+1)=tw j*2:=by unfold tw;rw[k0a]
theorem tw_le(h:j<=k):tw j<=tw k:=k04 (by omega) h
theorem tw_pos(j:Nat):0<tw j:=k0c j
theorem Pow(n:Nat)(w:qf)(hn:n<=63):ql qd 76 #[.int .i64 (n:Int)] w fun e w'=>e=.returned (.int .u64 (tw n:Nat))/\w=w':=by
 have c:(n:Int)<=63:=by omega
 go_enter func76,ntmps76;go_wp2;go_loop [3,4] (fun a t=>∃k:Nat,k<=n/\t=.int .i64 k/\a=.int .u64 (tw k:Nat)) (fun _ t=>n-(intOf t).toNat)
 case atStart=>exact⟨0,k0x _,rfl,rfl⟩
 case round =>
  obtain⟨k,d,rfl,rfl⟩:=hrel;by_cases hkn:k<n
  ·have f:((tw k:Nat):Int)<=4611686018427387904:=by have:=tw_le (j:=k) (k:=62) (by omega);have g:tw 62=4611686018427387904:=rfl;omega
   have b:=vv (tw_succ k);go_wp2;go_round
   case rel=>exact⟨k+1,by omega,by go_num,k0v _ (by rw[b.o];omega)⟩
   case measure=>simp [intOf];omega
  ·obtain rfl:k=n:=by omega
   clear hkn;go_wp2;go_ret;exact⟨rfl,rfl⟩
structure PartsBox(w:qf)(g:Nat)(neg:Bool)(x f:Nat):Prop where
 c0:w.cell? ⟨g,0,qc⟩=qh (.bool neg)
 c1:w.cell? ⟨g,1,qc⟩=qh (.int .i64 (x:Int))
 c2:w.cell? ⟨g,2,qc⟩=qh (.int .u64 (f:Int))
 lt:g<w.heap.size
theorem PartsBox.made(w:qf)(neg:Bool)(x f:Nat)(t:TypeId):PartsBox (w.alloc (.cells #[.bool neg,.int .i64 (x:Int),.int .u64 (f:Int)] t)) w.heap.size neg x f:=⟨by simp only[World.cell?];rw[qg];rfl,by simp only[World.cell?];rw[qg];rfl,by simp only[World.cell?];rw[qg];rfl,by simp⟩
theorem PartsBox.below{x f:Nat}(h:PartsBox w g neg x f)(hb:qi w.heap.size w w'):PartsBox w' g neg x f:=⟨(hb.cell (p:=⟨g,0,qc⟩) h.lt).trans h.c0,(hb.cell (p:=⟨g,1,qc⟩) h.lt).trans h.c1,(hb.cell (p:=⟨g,2,qc⟩) h.lt).trans h.c2,k02 h.lt hb.size⟩
end R3
section
open Go Go.RowKit
def q3k(s:ByteArray):Bool:=s.data.toList.all fun c=>qa (48<=c.toNat) && qa (c.toNat<=57)
theorem q92(s:ByteArray)(k:Nat)(h:k<s.size):s[k]∈s.data.toList:=by have:s[k]=s.data.toList[k]'(by simpa using h):=rfl;rw[this];exact k2s _
theorem q2c:q3k s=qj↔q86 s:=by
 unfold q3k q86;rw[k1M];constructor
 ·intro h k a;have:=h _ (q92 s k a)
  simpa using this
 ·intro h c d;obtain⟨k,a,e⟩:=List.getElem_of_mem d;have b:k<s.size:=by simpa using a
  have:=h k b;have f:s[k]=c:=e;rw[f] at this
  simpa using this
theorem q57(hk:k<s.size)(h:¬(48<=s[k].toNat/\s[k].toNat<=57)):q3k s=qe:=by
 rcases Bool.eq_false_or_eq_true (q3k s) with e|e
 ·exact absurd (q2c.1 e k hk) h
 ·exact e
def q3r(s:ByteArray)(k:Nat):Nat:=if h:k<s.size then s[k].toNat else 0
theorem q2D(h:k<s.size):q3r s k=s[k].toNat:=dif_pos h
def q0G(s:ByteArray)(x:Int):Bool:=
 qa (x<=1073741824) && qa (-1073741824<=x) && qa (s.size<=65536) &&
  (if s.size=0 then qa (x=0) else q3k s && !qa (q3r s 0=48) && !qa (q3r s (s.size-1)=48))
structure DecBox(w:qf)(g:Nat)(neg:Bool)(s:ByteArray)(x:Int):Prop where
 c0:w.cell? ⟨g,0,qc⟩=qh (.bool neg)
 c1:w.cell? ⟨g,1,qc⟩=qh (.string s)
 c2:w.cell? ⟨g,2,qc⟩=qh (.int .i64 x)
 lt:g<w.heap.size
theorem DecBox.made(w:qf)(neg:Bool)(s:ByteArray)(x:Int)(t:TypeId):DecBox (w.alloc (.cells #[.bool neg,.string s,.int .i64 x] t)) w.heap.size neg s x:=⟨by simp only[World.cell?];rw[qg];rfl,by simp only[World.cell?];rw[qg];rfl,by simp only[World.cell?];rw[qg];rfl,by simp⟩
theorem DecBox.below(h:DecBox w g neg s x)(hb:qi w.heap.size w w'):DecBox w' g neg s x:=⟨(hb.cell (p:=⟨g,0,qc⟩) h.lt).trans h.c0,(hb.cell (p:=⟨g,1,qc⟩) h.lt).trans h.c1,(hb.cell (p:=⟨g,2,qc⟩) h.lt).trans h.c2,k02 h.lt hb.size⟩
abbrev decV(neg:Bool)(s:ByteArray)(x:Int):qq:=.agg #[.bool neg,.string s,.int .i64 x]
end
namespace R11
open Go Go.RowKit R5
def noTwoB(neg:Bool)(n:Nat)(x:Int):Bool:=qa (n=0) && qa (x=0) && !neg
end R11
section
open Go Go.RowKit
theorem q3U(h:0<s.size):s.toList.isEmpty=qe:=by
 rw[ByteArray.toList_eq];have e:s.data.toList.length=s.size:=k2x;cases hl:s.data.toList with
 | nil=>rw[hl] at e;simp at e;omega
 | cons _ _=>rfl
end
namespace R11
open Go Go.RowKit R5
end R11
section
open Go Go.RowKit
abbrev qdF(kind:Nat)(neg dneg:Bool)(s:ByteArray)(x:Int)(hneg:Bool)(A:Option qn)(n c:Nat)(hx:Int)(p:Nat):qq:=
 .agg #[.int .u8 (kind:Int),.bool neg,.bool dneg,.string s,.int .i64 x,.bool hneg,.slice A n c,.int .i64 hx,.int .u64 (p:Int)]
structure NumBox(w:qf)(g:Nat)(kind:Nat)(neg dneg:Bool)(s:ByteArray)(x:Int)(hneg:Bool)(A:Option qn)(n c:Nat)(hx:Int)(p:Nat):Prop where
 c0:w.cell? ⟨g,0,qc⟩=qh (.int .u8 (kind:Int))
 c1:w.cell? ⟨g,1,qc⟩=qh (.bool neg)
 c2:w.cell? ⟨g,2,qc⟩=qh (.bool dneg)
 c3:w.cell? ⟨g,3,qc⟩=qh (.string s)
 c4:w.cell? ⟨g,4,qc⟩=qh (.int .i64 x)
 c5:w.cell? ⟨g,5,qc⟩=qh (.bool hneg)
 c6:w.cell? ⟨g,6,qc⟩=qh (.slice A n c)
 c7:w.cell? ⟨g,7,qc⟩=qh (.int .i64 hx)
 c8:w.cell? ⟨g,8,qc⟩=qh (.int .u64 (p:Int))
 lt:g<w.heap.size
theorem NumBox.made(w:qf)(kind:Nat)(neg dneg:Bool)(s:ByteArray)(x:Int)(hneg:Bool)(A:Option qn)(n c:Nat)(hx:Int)(p:Nat)(t:TypeId):NumBox (w.alloc (.cells #[.int .u8 (kind:Int),.bool neg,.bool dneg,.string s,.int .i64 x,.bool hneg,.slice A n c,.int .i64 hx,.int .u64 (p:Int)] t)) w.heap.size kind neg dneg s x hneg A n c hx p:=by constructor<;>first|(simp only[World.cell?];rw[qg];rfl)|simp
theorem NumBox.below{kind:Nat}{dneg:Bool}{hneg:Bool}{A:Option qn}{hx:Int}{p:Nat}(h:NumBox w g kind neg dneg s x hneg A n c hx p)(hb:qi w.heap.size w w'):NumBox w' g kind neg dneg s x hneg A n c hx p:=⟨(hb.cell (p:=⟨g,0,qc⟩) h.lt).trans h.c0,(hb.cell (p:=⟨g,1,qc⟩) h.lt).trans h.c1,(hb.cell (p:=⟨g,2,qc⟩) h.lt).trans h.c2,(hb.cell (p:=⟨g,3,qc⟩) h.lt).trans h.c3,(hb.cell (p:=⟨g,4,qc⟩) h.lt).trans h.c4,(hb.cell (p:=⟨g,5,qc⟩) h.lt).trans h.c5,(hb.cell (p:=⟨g,6,qc⟩) h.lt).trans h.c6,(hb.cell (p:=⟨g,7,qc⟩) h.lt).trans h.c7,(hb.cell (p:=⟨g,8,qc⟩) h.lt).trans h.c8,k02 h.lt hb.size⟩
def q7B(neg:Bool)(s:ByteArray)(x:Int):Bool:=!neg && s.toList.isEmpty && (x==0)
def qct(kind:Nat)(neg dneg:Bool)(s:ByteArray)(x:Int)(hneg:Bool)(n:Nat)(xs:List Nat)(hx:Int)(p:Nat):Bool:=
 if kind=1 then q0G s x && (dneg==neg) && R11.noTwoB hneg n hx && qa (p=0)
 else if kind=2 then R5.twoOk hneg n xs hx && q7B dneg s x && qa (p=0) && ((hneg==neg) || decide (n=0))
 else if kind=3 then q7B dneg s x && R11.noTwoB hneg n hx && qa (p=0)
 else if kind=4 then q7B dneg s x && R11.noTwoB hneg n hx && qa (p<=2251799813685247)
 else qe
def qcN(b:Bool):Int:=if b then 0 else 110
end
namespace R11
open Go Go.RowKit R5
end R11
namespace R1
open Go Go.RowKit
theorem two_words(w:qf)(x y:Nat)(hx:x<4294967296)(hy:y<4294967296)(t:TypeId):Rd (w.alloc (.cells #[.int .u32 (x:Int),.int .u32 (y:Int)] t)) (qh ⟨w.heap.size,0,qc⟩) 2 2 [x,y]/\qi w.heap.size w (w.alloc (.cells #[.int .u32 (x:Int),.int .u32 (y:Int)] t)):=⟨(Own.lit (t:=t) [x,y] (q0y.2 ⟨hx,q0y.2 ⟨hy,q0N⟩⟩) (by simp [q0q])).rd rfl lr (by omega),(qb _ _).alloc lr _⟩
theorem Of1(w:qf):ql qd 240 #[.int .u64 1] w fun e w'=>∃A n c,e=.returned (.agg #[.slice A n c])/\Rd w' A n c (toL 1)/\qi w.heap.size w w':=by
 go_enter func240,ntmps240;go_wp2_with fail;obtain⟨h,i⟩:=two_words (w.alloc (.cells #[.slice qc 0 0] 37)) 1 0 (by omega) (by omega) 54;have k:=(NatCell.made w 37).below i;have l:=(qb w.heap.size w).alloc (o:=.cells #[.slice qc 0 0] 37) lr;have u:=vv k;have x:=vv (l.trans (i.mono (by simp)));have m:(w.alloc (.cells #[.slice qc 0 0] 37)).heap.size=w.heap.size+1:=by simp
 rw[m] at h;clear i k l m;refine(qdo (qh ⟨w.heap.size+1,0,qc⟩) 2 2 [1,0] _ h).mono ?_;rintro e w' ⟨b,rfl,rfl,j⟩;have y:=vv j;clear j h;go_wp2_with fail;refine(qdb _ b 2 _).mono ?_;rintro e f ⟨rfl,d⟩;have p:qm (Rd f (qh ⟨w.heap.size+1,0,qc⟩) b 2 (toL 1)):=vv (y.o.below d rfl);have g:=vv (u.o.below d);have q:=vn x d;have z:=g.o.c0;have fz:=g.o.fz;have lt:=g.o.lt;have r:qm (Rd (f.setCell ⟨w.heap.size,0,qc⟩ (.slice (qh ⟨w.heap.size+1,0,qc⟩) b 2)) (qh ⟨w.heap.size+1,0,qc⟩) b 2 (toL 1)):=vv (p.o.other _ _ _ (fun a e=>by cases e;simp));have s:qm (qi w.heap.size w (f.setCell ⟨w.heap.size,0,qc⟩ (.slice (qh ⟨w.heap.size+1,0,qc⟩) b 2))):=vv (q.o.setCell lr _);have t:(f.setCell ⟨w.heap.size,0,qc⟩ (.slice (qh ⟨w.heap.size+1,0,qc⟩) b 2)).cell? ⟨w.heap.size,0,qc⟩=qh (.slice (qh ⟨w.heap.size+1,0,qc⟩) b 2):=q0p z;clear d;go_wp2;exact qk (v:=.agg #[.slice (qh ⟨w.heap.size+1,0,qc⟩) b 2]) (by simp [results,results240,go_sem,t]) rfl ⟨_,_,_,rfl,r.o,s.o⟩
end R1
namespace R11
open Go Go.RowKit R5
end R11
section
open Go Go.RowKit R5
def q9u(E F:Nat)(neg:Bool)(s:ByteArray)(x:Int)(mode:Nat):Nat × Nat:=
 q0h E F neg neg mode (dvk s s.size*t10 x) (t10 (-x))
def qcO(E F:Int)(kind:Nat)(neg dneg:Bool)(s:ByteArray)(x:Int)(hneg:Bool)(n:Nat)(xs:List Nat)(hx:Int)(p mode:Nat):Nat × Nat × Nat:=
 if R3.formOk E F=qe then(0,0,5)
 else if qct kind neg dneg s x hneg n xs hx p=qe then(0,0,110)
 else if 4<mode then(0,0,7)
 else if kind=1 then((q9u E.toNat F.toNat dneg s x mode).1,(q9u E.toNat F.toNat dneg s x mode).2,0)
 else if kind=2 then((q0h E.toNat F.toNat hneg neg mode (val xs*p2 hx) (p2 (-hx))).1,(q0h E.toNat F.toNat hneg neg mode (val xs*p2 hx) (p2 (-hx))).2,0)
 else if kind=3 then(sgb E.toNat F.toNat neg+(2^E.toNat-1)*2^F.toNat,0,0)
 else if 2^(F.toNat-1)<=p then(0,0,115)
 else(sgb E.toNat F.toNat neg+((2^E.toNat-1)*2^F.toNat+(2^(F.toNat-1)+p)),0,0)
def qcJ(o:Nat × Nat × Nat)(w:qf)(e:Ending)(w':qf):Prop:=e=.returned (.tuple #[.int .u64 (o.1:Int),.int .u8 (o.2.1:Int),.int .i64 (o.2.2:Int)])/\qi w.heap.size w w'
end
namespace R16
open Go Go.RowKit R5
theorem bytes_none(h:s.size=0):s=⟨#[]⟩:=by have a:s.data.size=0:=h;have b:=Array.eq_empty_of_size_eq_zero a;cases s;simp_all
theorem natOk_facts(h:q2y n xs=qj):n<=16384/\(n=0\/nth xs (n-1)≠0):=by unfold q2y at h;simp only[k0T,k1r,k0C] at h;exact h
end R16
namespace R1
open Go Go.RowKit
end R1
namespace Fms
open Go Go.RowKit R5
theorem qa7:∀n:Fin 64,bits .andNot .u64 18446744073709551615 (IntKind.u64.wrap (18446744073709551615*2^n.val))=((R3.tw n.val-1:Nat):Int):=by decide +kernel
theorem qcv(n:Nat)(w:qf)(hn:n<=63):ql qd 132 #[.int .i64 (n:Int)] w fun e w'=>e=.returned (.int .u64 ((R3.tw n-1:Nat):Int))/\w=w':=by have a:=vv (qa7 ⟨n,by omega⟩);go_enter func132,ntmps132;go_wp2;go_ret;exact⟨q0U a.o,rfl⟩
abbrev qcR(E F:Int):qq:=.agg #[.int .i64 0,.int .i64 F,.int .i64 F,.int .i64 E,.int .i64 (F+E),.int .i64 1]
structure LayBox(w:qf)(g:Nat)(E F:Int):Prop where
 c0:w.cell? ⟨g,0,qc⟩=qh (.int .i64 0)
 c1:w.cell? ⟨g,1,qc⟩=qh (.int .i64 F)
 c2:w.cell? ⟨g,2,qc⟩=qh (.int .i64 F)
 c3:w.cell? ⟨g,3,qc⟩=qh (.int .i64 E)
 c4:w.cell? ⟨g,4,qc⟩=qh (.int .i64 (F+E))
 c5:w.cell? ⟨g,5,qc⟩=qh (.int .i64 1)
 lt:g<w.heap.size
theorem LayBox.made(w:qf)(E F:Int)(t:TypeId):LayBox (w.alloc (.cells #[.int .i64 0,.int .i64 F,.int .i64 F,.int .i64 E,.int .i64 (F+E),.int .i64 1] t)) w.heap.size E F:=by constructor<;>first|(simp only[World.cell?];rw[qg];rfl)|simp
theorem LayBox.below(h:LayBox w g E F)(hb:qi w.heap.size w w'):LayBox w' g E F:=⟨(hb.cell (p:=⟨g,0,qc⟩) h.lt).trans h.c0,(hb.cell (p:=⟨g,1,qc⟩) h.lt).trans h.c1,(hb.cell (p:=⟨g,2,qc⟩) h.lt).trans h.c2,(hb.cell (p:=⟨g,3,qc⟩) h.lt).trans h.c3,(hb.cell (p:=⟨g,4,qc⟩) h.lt).trans h.c4,(hb.cell (p:=⟨g,5,qc⟩) h.lt).trans h.c5,k02 h.lt hb.size⟩
theorem qbE(E F:Nat)(w:qf)(h2:E<=11)(h4:F<=52):ql qd 62 #[fm E F] w fun e w'=>e=.returned (qcR E F)/\qi w.heap.size w w':=by
 have a:(E:Int)<=11:=by omega
 have b:(F:Int)<=52:=by omega
 clear h2 h4;go_enter func62,ntmps62;go_wp2;exact qk (v:=qcR E F) (by simp [results,results62,go_sem]) rfl ⟨rfl,((qb _ _).alloc lr _).alloc (by simp) _⟩
theorem Check(E F:Int)(w:qf):ql qd 32 #[fm E F] w fun e w'=>e=.returned (.int .i64 (R3.chk E F))/\qi w.heap.size w w':=by
 by_cases h1:E<2
 ·have a:qm (R3.formOk E F=qe):=vv (by unfold R3.formOk;rw[k00 (p:=2<=E) (by omega)];rfl);have b:qa (E<2)=qj:=k03 h1;clear h1;go_enter func32,ntmps32;go_wp2;go_ret;exact⟨q0U (R3.chk_no a.o).symm,(qb _ _).alloc lr _⟩
 have b:qa (E<2)=qe:=k00 h1;by_cases h2:11<E
 ·have a:qm (R3.formOk E F=qe):=vv (by unfold R3.formOk;rw[k00 (p:=E<=11) (by omega)];simp);have c:qa (11<E)=qj:=k03 h2;clear h1 h2;go_enter func32,ntmps32;go_wp2;go_ret;exact⟨q0U (R3.chk_no a.o).symm,(qb _ _).alloc lr _⟩
 have c:qa (11<E)=qe:=k00 h2;by_cases h3:F<1
 ·have a:qm (R3.formOk E F=qe):=vv (by unfold R3.formOk;rw[k00 (p:=1<=F) (by omega)];simp);have d:qa (F<1)=qj:=k03 h3;clear h1 h2 h3;go_enter func32,ntmps32;go_wp2;go_ret;exact⟨q0U (R3.chk_no a.o).symm,(qb _ _).alloc lr _⟩
 have d:qa (F<1)=qe:=k00 h3;by_cases h4:52<F
 ·have a:qm (R3.formOk E F=qe):=vv (by unfold R3.formOk;rw[k00 (p:=F<=52) (by omega)];simp);have f:qa (52<F)=qj:=k03 h4;clear h1 h2 h3 h4;go_enter func32,ntmps32;go_wp2;go_ret;exact⟨q0U (R3.chk_no a.o).symm,(qb _ _).alloc lr _⟩
 have f:qa (52<F)=qe:=k00 h4;have a:qm (R3.formOk E F=qj):=vv (by unfold R3.formOk;rw[k03 (p:=2<=E) (by omega),k03 (p:=E<=11) (by omega),k03 (p:=1<=F) (by omega),k03 (p:=F<=52) (by omega)];rfl);clear h1 h2 h3 h4;go_enter func32,ntmps32;go_wp2;go_ret;exact⟨q0U (R3.chk_ok a.o).symm,(qb _ _).alloc lr _⟩
theorem formOk_in{E F:Nat}(h1:2<=E)(h2:E<=11)(h3:1<=F)(h4:F<=52):R3.formOk (E:Int) (F:Int)=qj:=by unfold R3.formOk;rw[k03 (p:=(2:Int)<=E) (by omega),k03 (p:=(E:Int)<=11) (by omega),k03 (p:=(1:Int)<=F) (by omega),k03 (p:=(F:Int)<=52) (by omega)];rfl
end Fms
namespace Dec
open Go Go.RowKit R5
theorem q8j(h1:48<=c)(h2:c<=57):qa (9<((c:Int)-48)%256)=qe:=k00 (by omega)
theorem q8i(h:c<256)(h1:¬(48<=c/\c<=57)):qa (9<((c:Int)-48)%256)=qj:=k03 (by omega)
theorem q9t(s:ByteArray)(w:qf)(hsz:s.size<=65536):ql qd 49 #[.string s] w fun e w'=>e=.returned (.bool (q3k s))/\w=w':=by
 have m:(s.size:Int)<=65536:=by omega
 clear hsz;go_enter func49,ntmps49;go_wp2;go_loop [6] (fun t=>∃k:Nat,k<=s.size/\t=.int .i64 k/\(∀j (h:j<s.size),j<k->48<=s[j].toNat/\s[j].toNat<=57)) (fun t=>s.size-(intOf t).toNat)
 case atStart=>exact⟨0,k0x _,rfl,fun j _ h=>absurd h (by omega)⟩
 case round =>
  obtain⟨k,f,rfl,a⟩:=hrel;have b:=vv a;clear a;by_cases hks:k<s.size
  ·by_cases hd:48<=s[k].toNat/\s[k].toNat<=57
   ·have g:=vv hd;have d:=q8j hd.1 hd.2;clear hd;go_wp2;go_round
    case rel =>
     refine⟨k+1,by omega,by go_num,fun j h hj=>?_⟩;rcases(by omega:j<k\/j=k) with h|rfl
     ·exact b.o j _ h
     ·exact g.o
    case measure=>simp [intOf];omega
   ·have i:=vv (q57 hks hd);have d:=q8i (UInt8.toNat_lt _) hd;clear hd;go_wp2;go_ret;exact⟨q4K i.o.symm,rfl⟩
  ·have c:k=s.size:=by omega
   subst c;have l:qm (q3k s=qj):=vv (q2c.2 (fun j h=>b.o j h h));clear f hks;go_wp2;go_ret;exact⟨q4K l.o.symm,rfl⟩
def farB(x:Int):Bool:=qa (x < -1073741824) || decide (1073741824<x)
theorem far(x:Int)(w:qf):ql qd 50 #[.int .i64 x] w fun e w'=>e=.returned (.bool (farB x))/\w=w':=by
 by_cases h1:x < -1073741824
 ·have a:qm (farB x=qj):=vv (by unfold farB;rw[k03 h1];rfl);have b:qa (x < -1073741824)=qj:=k03 h1;clear h1;go_enter func50,ntmps50;go_wp2;go_ret;exact⟨q4K a.o.symm,rfl⟩
 ·have a:qm (farB x=qa (1073741824<x)):=vv (by unfold farB;rw[k00 h1];rfl);have b:qa (x < -1073741824)=qe:=k00 h1;clear h1;go_enter func50,ntmps50;go_wp2;go_ret;exact⟨q4K a.o.symm,rfl⟩
def q1j(s:ByteArray)(x:Int):Int:=if 65536<s.size then 4 else if q0G s x then 0 else 100
theorem q59(s:ByteArray)(x:Int):(q1j s x==0)=q0G s x:=by
 unfold q1j;by_cases h:65536<s.size
 ·rw[k0n h];unfold q0G;rw[k00 (p:=s.size<=65536) (by omega)];simp
 ·rw[k0o h];cases q0G s x<;>rfl
theorem q4D(h:s.size<=65536)(hd:q0G s x=qe):q1j s x=100:=by unfold q1j;rw[k0o (by omega),hd];rfl
theorem decErr_yes(h:s.size<=65536)(hd:q0G s x=qj):q1j s x=0:=by unfold q1j;rw[k0o (by omega),hd];rfl
theorem q6e(h:s.size<=65536)(h0:0<s.size):q0G s x=(q3k s && !qa (q3r s 0=48) && !qa (q3r s (s.size-1)=48) && !farB x):=by
 unfold q0G farB;rw[k03 h,k0o (by omega)];by_cases h1:x < -1073741824
 ·rw[k03 h1,k00 (p:=-1073741824<=x) (by omega)];simp
 ·rw[k00 h1,k03 (p:=-1073741824<=x) (by omega)];by_cases h2:1073741824<x
  ·rw[k03 h2,k00 (p:=x<=1073741824) (by omega)];simp
  ·rw[k00 h2,k03 (p:=x<=1073741824) (by omega)];simp
theorem q6q(neg:Bool)(s:ByteArray)(x:Int)(w:qf)(h:65536<s.size)(hmax:(s.size:Int)<=4611686018427387904):ql qd 18 #[decV neg s x] w fun e w'=>e=.returned (.int .i64 (q1j s x))/\qi w.heap.size w w':=by have a:qm (q1j s x=4):=vv (by unfold q1j;rw[k0n h]);have b:qa ((65536:Int)<(s.size:Int))=qj:=k03 (by omega);clear h;go_enter func18,ntmps18;go_wp2;go_ret;exact⟨q0U a.o.symm,(qb _ _).alloc lr _⟩
theorem q6p(neg:Bool)(x:Int)(w:qf):ql qd 18 #[decV neg ⟨#[]⟩ x] w fun e w'=>e=.returned (.int .i64 (q1j ⟨#[]⟩ x))/\qi w.heap.size w w':=by
 have a:q0G ⟨#[]⟩ x=(x==0):=by
  unfold q0G;by_cases h:x=0
  ·subst h;rfl
  ·have e:(x==0)=qe:=by rw[k09];exact h
   rw[e,k0n (by rfl),k00 h];simp
 cases t:(x==0)
 ·rw[t] at a;have b:=vv (q4D (s:=⟨#[]⟩) (x:=x) (by decide) a);clear a;go_enter func18,ntmps18;go_wp2;go_ret;exact⟨q0U b.o.symm,(qb _ _).alloc lr _⟩
 ·rw[t] at a;have b:=vv (decErr_yes (s:=⟨#[]⟩) (x:=x) (by decide) a);clear a;go_enter func18,ntmps18;go_wp2;go_ret;exact⟨q0U b.o.symm,(qb _ _).alloc lr _⟩
theorem q6o(neg:Bool)(s:ByteArray)(x:Int)(w:qf)(h:s.size<=65536)(h0:0<s.size):ql qd 18 #[decV neg s x] w fun e w'=>e=.returned (.int .i64 (q1j s x))/\qi w.heap.size w w':=by
 have m:=q6e (x:=x) h h0;have t:qa ((65536:Int)<(s.size:Int))=qe:=k00 (by omega);have u:((s.size:Int)==0)=qe:=by rw[k09];omega
 have r:(s.size:Int)<=65536:=by omega
 have b:=vv fun w=>q9t s w h
 have i:=vv fun(hd:q0G s x=qe)=>q4D h hd
 have n:=vv fun(hd:q0G s x=qj)=>decErr_yes h hd
 have k:=(qb w.heap.size w).alloc (o:=.cells #[.bool neg,.string s,.int .i64 x] 27) lr;have c:=DecBox.made w neg s x 27;obtain⟨v,l⟩:=yx (w.alloc (.cells #[.bool neg,.string s,.int .i64 x] 27));rw[<- l] at k c;have f:=vv k;have d:=vv l;have y:=c.c1;have z:=c.c2;have C:=c.lt;have p:s.size-1<s.size:=by omega
 rw[q2D h0,q2D p] at m;have g:=vv m;clear l k c h m;cases hdg:q3k s
 ·rw[hdg] at b;have a:=vv (i.o (by rw[g.o,hdg];rfl));clear hdg;go_enter func18,ntmps18;go_wp2_with fail;rw[<- d.o];go_wp2_with fail;refine(b.o _).mono ?_;rintro e w' ⟨rfl,rfl⟩;go_wp2;go_ret;exact⟨q0U a.o.symm,f.o⟩
 rw[hdg] at b;by_cases e0:s[0].toNat=48
 ·have a:=vv (i.o (by rw[g.o,k03 e0];simp));clear hdg;go_enter func18,ntmps18;go_wp2_with fail;rw[<- d.o];go_wp2_with fail;refine(b.o _).mono ?_;rintro e w' ⟨rfl,rfl⟩;go_wp2;go_ret;exact⟨q0U a.o.symm,f.o⟩
 have D:((s[0].toNat:Int)==48)=qe:=by rw[k09];omega
 by_cases e1:s[s.size-1].toNat=48
 ·have a:=vv (i.o (by rw[g.o,k03 e1];simp));have q:((s[s.size-1].toNat:Int)==48)=qj:=by rw[e1];rfl
  clear hdg e0 e1;go_enter func18,ntmps18;go_wp2_with fail;rw[<- d.o];go_wp2_with fail;refine(b.o _).mono ?_;rintro e w' ⟨rfl,rfl⟩;go_wp2;go_ret;exact⟨q0U a.o.symm,f.o⟩
 have q:((s[s.size-1].toNat:Int)==48)=qe:=by rw[k09];omega
 have j:=vv fun w=>far x w
 cases hf:farB x
 ·rw[hf] at j;have a:=vv (n.o (by rw[g.o,hdg,hf,k00 e0,k00 e1];rfl));clear hdg hf e0 e1;go_enter func18,ntmps18;go_wp2_with fail;rw[<- d.o];go_wp2_with fail;refine(b.o _).mono ?_;rintro e w' ⟨rfl,rfl⟩;go_wp2_with fail;refine(j.o _).mono ?_;rintro e w' ⟨rfl,rfl⟩;go_wp2;go_ret;exact⟨q0U a.o.symm,f.o⟩
 ·rw[hf] at j;have a:=vv (i.o (by rw[g.o,hf];simp));clear hdg hf e0 e1;go_enter func18,ntmps18;go_wp2_with fail;rw[<- d.o];go_wp2_with fail;refine(b.o _).mono ?_;rintro e w' ⟨rfl,rfl⟩;go_wp2_with fail;refine(j.o _).mono ?_;rintro e w' ⟨rfl,rfl⟩;go_wp2;go_ret;exact⟨q0U a.o.symm,f.o⟩
theorem Check(neg:Bool)(s:ByteArray)(x:Int)(w:qf)(hmax:(s.size:Int)<=4611686018427387904):ql qd 18 #[decV neg s x] w fun e w'=>e=.returned (.int .i64 (q1j s x))/\qi w.heap.size w w':=by
 by_cases h:s.size<=65536
 ·by_cases h0:0<s.size
  ·exact q6o neg s x w h h0
  ·have e:s=⟨#[]⟩:=R16.bytes_none (by omega);rw[e];exact q6p neg x w
 ·exact q6q neg s x w (by omega) hmax
end Dec
namespace Nat_
open Go Go.RowKit R5
def natErr(n:Nat)(xs:List Nat):Int:=if 16384<n then 4 else if q2y n xs then 0 else 10
theorem natErr_ok(h:q2y n xs=qj):natErr n xs=0:=by unfold natErr;have:=(R16.natOk_facts h).1;rw[k0o (by omega),h];rfl
theorem natErr_zero(n:Nat)(xs:List Nat):(natErr n xs==0)=q2y n xs:=by
 unfold natErr;by_cases h:16384<n
 ·rw[k0n h];unfold q2y;rw[k00 (p:=n<=16384) (by omega)];rfl
 ·rw[k0o h];cases q2y n xs<;>rfl
theorem Check(A:Option qn)(n c:Nat)(xs:List Nat)(w:qf)(hr:Rd w A n c xs):ql qd 118 #[q0I A n c] w fun e w'=>e=.returned (.int .i64 (natErr n xs))/\qi w.heap.size w w':=by
 have k:=hr.sm;by_cases h:16384<n
 ·have d:qm (natErr n xs=4):=vv (by unfold natErr;rw[k0n h]);have i:qa ((16384:Int)<(n:Int))=qj:=k03 (by omega);clear h hr;go_enter func118,ntmps118;go_wp2;go_ret;exact⟨q0U d.o.symm,(qb _ _).alloc lr _⟩
 have i:qa ((16384:Int)<(n:Int))=qe:=k00 (by omega);have l:(n:Int)<=16384:=by omega
 rcases k01 n with a|a
 ·subst a;have d:qm (natErr 0 xs=0):=vv rfl;clear h hr;go_enter func118,ntmps118;go_wp2;go_ret;exact⟨q0U d.o.symm,(qb _ _).alloc lr _⟩
 obtain⟨m,rfl⟩:∃m,n=m+1:=⟨n-1,by omega⟩;obtain⟨b,off,rfl,r,g⟩:=hr.cell a;have hx:=g m (by omega);have s:(m:Int)+1<=16384:=by omega
 have t:((m:Int)+1==0)=qe:=by rw[k09];omega
 have j:qm (natErr (m+1) xs=if nth xs m=0 then 10 else 0):=vv (by
  unfold natErr;rw[k0o h];unfold q2y;rw[k03 (p:=m+1<=16384) (by omega),k00 (p:=m+1=0) (by omega),k1d];by_cases hz:nth xs m=0
  ·rw[k0n hz,k00 (p:=nth xs m≠0) (by omega)];rfl
  ·rw[k0o hz,k03 (p:=nth xs m≠0) hz];rfl)
 have u:qa ((16384:Int)<(m:Int)+1)=qe:=k00 (by omega);have v:qa ((0:Int)<(m:Int)+1)=qj:=k03 (by omega);clear h g hr a l i k;by_cases hz:nth xs m=0
 ·have f:qm (natErr (m+1) xs=10):=vv (by rw[j.o,k0n hz]);have q:(((nth xs m:Nat):Int)==0)=qj:=by rw[hz];rfl
  clear hz;go_enter func118,ntmps118;go_wp2;go_ret;exact⟨q0U f.o.symm,(qb _ _).alloc lr _⟩
 ·have f:qm (natErr (m+1) xs=0):=vv (by rw[j.o,k0o hz]);have q:(((nth xs m:Nat):Int)==0)=qe:=by rw[k09];omega
  clear hz;go_enter func118,ntmps118;go_wp2;go_ret;exact⟨q0U f.o.symm,(qb _ _).alloc lr _⟩
end Nat_
namespace Exa
open Go Go.RowKit R5
theorem none_(A:Option qn)(n c:Nat)(w:qf):ql qd 133 #[q0I A n c] w fun e w'=>e=.returned (.bool ((n:Int)==0))/\qi w.heap.size w w':=by go_enter func133,ntmps133;go_wp2;go_ret;exact⟨rfl,(qb _ _).alloc lr _⟩
theorem far(x:Int)(w:qf):ql qd 135 #[.int .i64 x] w fun e w'=>e=.returned (.bool (Dec.farB x))/\w=w':=by
 by_cases h1:x < -1073741824
 ·have a:qm (Dec.farB x=qj):=vv (by unfold Dec.farB;rw[k03 h1];rfl);have b:qa (x < -1073741824)=qj:=k03 h1;clear h1;go_enter func135,ntmps135;go_wp2;go_ret;exact⟨q4K a.o.symm,rfl⟩
 ·have a:qm (Dec.farB x=qa (1073741824<x)):=vv (by unfold Dec.farB;rw[k00 h1];rfl);have b:qa (x < -1073741824)=qe:=k00 h1;clear h1;go_enter func135,ntmps135;go_wp2;go_ret;exact⟨q4K a.o.symm,rfl⟩
def q1i(neg:Bool)(n:Nat)(xs:List Nat)(x:Int):Int:=
 if q2y n xs=qe then Nat_.natErr n xs else if twoOk neg n xs x then 0 else 40
theorem q55(neg:Bool)(n:Nat)(xs:List Nat)(x:Int):(q1i neg n xs x==0)=twoOk neg n xs x:=by
 unfold q1i;cases h:q2y n xs
 ·rw[k0n rfl,Nat_.natErr_zero,h];unfold twoOk;rw[h];rfl
 ·rw[k0o (by decide)];cases twoOk neg n xs x<;>rfl
theorem q5v(A:Option qn)(c:Nat)(w:qf):ql qd 133 #[q0I A 0 c] w fun e w'=>e=.returned (.bool qj)/\qi w.heap.size w w':=none_ A 0 c w
theorem q2w(A:Option qn)(n c:Nat)(w:qf)(h:0<n):ql qd 133 #[q0I A n c] w fun e w'=>e=.returned (.bool qe)/\qi w.heap.size w w':=by
 have e:((n:Int)==0)=qe:=by rw[k09];omega
 have:=none_ A n c w;rw[e] at this;exact this
theorem Check(neg:Bool)(A:Option qn)(n c:Nat)(xs:List Nat)(x:Int)(w:qf)(hr:Rd w A n c xs):ql qd 66 #[q14 neg A n c x] w fun e w'=>e=.returned (.int .i64 (q1i neg n xs x))/\qi w.heap.size w w':=by
 have t:=vv fun w' (h:qi w.heap.size w w')=>Nat_.Check A n c xs w' (hr.below h rfl)
 obtain⟨T,H⟩:=yx (w.alloc (.cells #[.bool neg,.slice A n c,.int .i64 x] 62));have O:qi w.heap.size w T:=by rw[H];exact(qb _ w).alloc lr _
 have I:DyadBox T w.heap.size neg A n c x:=by rw[H];exact DyadBox.made w _ _ _ _ _ _
 have d:=vv I;have a:=vv O;have z:=vv H;have i:=I.c1;have j:=I.lt;clear H O I;cases hok:q2y n xs
 ·have l:qm (q1i neg n xs x=Nat_.natErr n xs):=vv (by unfold q1i;rw[k0n hok]);obtain⟨v,u⟩:=yx (Nat_.natErr n xs);have Y:(v != 0)=qj:=by have:=Nat_.natErr_zero n xs;rw[<- u,hok] at this;rw[bne,this];rfl
  rw[<- u] at t l;clear u hok;go_enter func66,ntmps66;go_wp2_with fail;rw[<- z.o];refine(t.o _ a.o).mono ?_;rintro e D ⟨rfl,f⟩;have a:=vn a f;clear f;go_wp2;go_ret;exact⟨q0U l.o.symm,a.o⟩
 have l:qm (q1i neg n xs x=if twoOk neg n xs x then 0 else 40):=vv (by unfold q1i;rw[k0o (by rw[hok];decide)]);have P:twoOk neg n xs x=(qa (x<=1073741824) && qa (-1073741824<=x) && (if n=0 then qa (x=0) && !neg else qa (nth xs 0%2=1))):=by unfold twoOk;rw[hok];rfl
 have y:=vv P;rw[Nat_.natErr_ok hok] at t;have U:=(R16.natOk_facts hok).1;have Z:(n:Int)<=16384:=by omega
 clear P U hok;rcases k01 n with E|E
 ·subst E;have r:=vv fun w=>q5v A c w
  cases neg
  ·cases tx:(x==0)
   ·have s:qm (q1i qe 0 xs x=40):=vv (by
     have hx:x≠0:=by rw[k09] at tx;exact tx
     rw[l.o,y.o,k0n rfl,k00 hx];simp)
    have a0:(x != 0)=qj:=by rw[bne,tx];rfl
    clear l y;go_enter func66,ntmps66;go_wp2_with fail;rw[<- z.o];refine(t.o _ a.o).mono ?_;rintro e D ⟨rfl,f⟩;have d:=vv (d.o.below f);have a:=vn a f;obtain⟨m,i,q,j⟩:=d.o;clear f;go_wp2_with fail;refine(r.o _).mono ?_;rintro e G ⟨rfl,g⟩;have d:=vv (d.o.below g);have a:=vn a g;obtain⟨m,i,q,j⟩:=d.o;clear g;go_wp2;go_ret;exact⟨q0U s.o.symm,a.o⟩
   ·have hx:x=0:=by rw[k1S] at tx;exact tx
    subst hx;have s:qm (q1i qe 0 xs 0=0):=vv (by rw[l.o,y.o,k0n rfl];rfl);clear l y;go_enter func66,ntmps66;go_wp2_with fail;rw[<- z.o];refine(t.o _ a.o).mono ?_;rintro e D ⟨rfl,f⟩;have d:=vv (d.o.below f);have a:=vn a f;obtain⟨m,i,q,j⟩:=d.o;clear f;go_wp2_with fail;refine(r.o _).mono ?_;rintro e G ⟨rfl,g⟩;have d:=vv (d.o.below g);have a:=vn a g;obtain⟨m,i,q,j⟩:=d.o;clear g;go_wp2_with fail;refine(r.o _).mono ?_;rintro e N ⟨rfl,k⟩;have d:=vv (d.o.below k);have a:=vn a k;obtain⟨m,i,q,j⟩:=d.o;clear k;go_wp2;go_ret;exact⟨q0U s.o.symm,a.o⟩
  ·have s:qm (q1i qj 0 xs x=40):=vv (by rw[l.o,y.o,k0n rfl];simp);clear l y;go_enter func66,ntmps66;go_wp2_with fail;rw[<- z.o];refine(t.o _ a.o).mono ?_;rintro e D ⟨rfl,f⟩;have d:=vv (d.o.below f);have a:=vn a f;obtain⟨m,i,q,j⟩:=d.o;clear f;go_wp2_with fail;refine(r.o _).mono ?_;rintro e G ⟨rfl,g⟩;have d:=vv (d.o.below g);have a:=vn a g;obtain⟨m,i,q,j⟩:=d.o;clear g;go_wp2;go_ret;exact⟨q0U s.o.symm,a.o⟩
 have r:=vv fun w=>q2w A n c w E
 obtain⟨b,off,rfl,Q,R⟩:=hr.cell E;have L:=R 0 E;rw[k14] at L;have J:=vv L;have F:=hr.nth_lt 0;have M:=vv Q;have C:qm (twoOk neg n xs x=(qa (nth xs 0%2=1) && !Dec.farB x)):=vv (by
  rw[y.o,k0o (by omega)];unfold Dec.farB;by_cases q1:x < -1073741824
  ·rw[k03 q1,k00 (p:=-1073741824<=x) (by omega)];simp
  ·rw[k00 q1,k03 (p:=-1073741824<=x) (by omega)];by_cases q2:1073741824<x
   ·rw[k03 q2,k00 (p:=x<=1073741824) (by omega)];simp
   ·rw[k00 q2,k03 (p:=x<=1073741824) (by omega)];simp)
 have V:qa ((0:Int)<(n:Int))=qj:=k03 (by omega);clear y R hr E Q L;have K:=vv fun w=>far x w
 obtain⟨v,u⟩:=yx (nth xs 0);rw[<- u] at J C F;have S:qm (bits .and .u32 (v:Int) 1=((v%2:Nat):Int)):=vv (by have:=u32_and_nat v 1 F (by omega);rw[Nat.and_one_is_mod] at this;exact this);have a1:(0:Int)<(n:Int):=by simpa using V
 clear u;by_cases hp:v%2=0
 ·have s:qm (q1i neg n xs x=40):=vv (by rw[l.o,C.o,k00 (p:=v%2=1) (by omega)];rfl);have W:(bits .and .u32 (v:Int) 1==0)=qj:=by rw[S.o,hp];rfl
  have X:((v:Int)%2==0)=qj:=by rw[k1S];omega
  clear hp l C F;go_enter func66,ntmps66;go_wp2_with fail;rw[<- z.o];refine(t.o _ a.o).mono ?_;rintro e D ⟨rfl,f⟩;have d:=vv (d.o.below f);have a:=vn a f;obtain⟨m,i,q,j⟩:=d.o;clear f;go_wp2_with fail;refine(r.o _).mono ?_;rintro e G ⟨rfl,g⟩;have d:=vv (d.o.below g);have a:=vn a g;obtain⟨m,i,q,j⟩:=d.o;clear g;go_wp2_with fail;refine(r.o _).mono ?_;rintro e N ⟨rfl,k⟩;have d:=vv (d.o.below k);have a:=vn a k;obtain⟨m,i,q,j⟩:=d.o;clear k;have u:=(a.o.cell (p:=⟨b,off,qc⟩) M.o).trans J.o;go_wp2;go_ret;exact⟨q0U s.o.symm,a.o⟩
 have W:(bits .and .u32 (v:Int) 1==0)=qe:=by rw[S.o,k09];omega
 have X:((v:Int)%2==0)=qe:=by rw[k09];omega
 cases hf:Dec.farB x
 ·rw[hf] at K;have s:qm (q1i neg n xs x=0):=vv (by rw[l.o,C.o,hf,k03 (p:=v%2=1) (by omega)];rfl);clear hp l C F hf;go_enter func66,ntmps66;go_wp2_with fail;rw[<- z.o];refine(t.o _ a.o).mono ?_;rintro e D ⟨rfl,f⟩;have d:=vv (d.o.below f);have a:=vn a f;obtain⟨m,i,q,j⟩:=d.o;clear f;go_wp2_with fail;refine(r.o _).mono ?_;rintro e G ⟨rfl,g⟩;have d:=vv (d.o.below g);have a:=vn a g;obtain⟨m,i,q,j⟩:=d.o;clear g;go_wp2_with fail;refine(r.o _).mono ?_;rintro e N ⟨rfl,k⟩;have d:=vv (d.o.below k);have a:=vn a k;obtain⟨m,i,q,j⟩:=d.o;clear k;have u:=(a.o.cell (p:=⟨b,off,qc⟩) M.o).trans J.o;go_wp2_with fail;refine(K.o _).mono ?_;rintro e w' ⟨rfl,rfl⟩;go_wp2;go_ret;exact⟨q0U s.o.symm,a.o⟩
 ·rw[hf] at K;have s:qm (q1i neg n xs x=40):=vv (by rw[l.o,C.o,hf,k03 (p:=v%2=1) (by omega)];rfl);clear hp l C F hf;go_enter func66,ntmps66;go_wp2_with fail;rw[<- z.o];refine(t.o _ a.o).mono ?_;rintro e D ⟨rfl,f⟩;have d:=vv (d.o.below f);have a:=vn a f;obtain⟨m,i,q,j⟩:=d.o;clear f;go_wp2_with fail;refine(r.o _).mono ?_;rintro e G ⟨rfl,g⟩;have d:=vv (d.o.below g);have a:=vn a g;obtain⟨m,i,q,j⟩:=d.o;clear g;go_wp2_with fail;refine(r.o _).mono ?_;rintro e N ⟨rfl,k⟩;have d:=vv (d.o.below k);have a:=vn a k;obtain⟨m,i,q,j⟩:=d.o;clear k;have u:=(a.o.cell (p:=⟨b,off,qc⟩) M.o).trans J.o;go_wp2_with fail;refine(K.o _).mono ?_;rintro e w' ⟨rfl,rfl⟩;go_wp2;go_ret;exact⟨q0U s.o.symm,a.o⟩
end Exa
namespace Nat_
open Go Go.RowKit R5
theorem Rd.cap{A:Option qn}(h:Rd w A n c xs):Rd w A n n xs:=⟨h.len,lr,h.sm,h.lim,h.cell⟩
theorem trimmed(A:Option qn)(n c:Nat)(xs:List Nat)(w:qf)(hr:Rd w A n c xs):ql qd 125 #[.slice A n c] w fun e w'=>∃A' m,e=.returned (q0I A' m m)/\Rd w' A' m m (toL (val xs))/\(∀a,A'=qh a->A=qh a)/\qi w.heap.size w w':=by
 have K:=hr.sm;have L:=hr.len;have M:=hr.le;have f:=(qb w.heap.size w).alloc (o:=.cells #[.slice qc 0 0] 37) lr;have l:=NatCell.made w 37;obtain⟨r,s⟩:=yx (w.alloc (.cells #[.slice qc 0 0] 37));rw[<- s] at f l;have g:=hr.below f rfl;have F:=vv s;have D:=vv f;have N:=vv g;have z:=vv hr;have E:=l.c0;have fz:=l.fz;have R:=l.lt;clear s l;go_enter func125,ntmps125;go_wp2_with fail;rw[<- F.o];go_loop [3] (fun t=>∃k:Nat,k<=n/\t=.int .i64 k/\∀i,k<=i->nth xs i=0) (fun t=>(intOf t).toNat)
 case atStart=>exact⟨n,lr,rfl,fun i hi=>q1b xs i (by omega)⟩
 case round =>
  obtain⟨k,S,rfl,q⟩:=hrel;have fin:∀m,m<=n->(∀i,m<=i->nth xs i=0)->(m=0\/nth xs (m-1)≠0)->Rd r A m c (toL (val xs)):=by intro m I d y;have e:=q23 hr.lim (n:=m) d (y.imp id fun h=>⟨by omega,h⟩);rw[<- e];exact g.take I
  have C:=vv fin;clear fin;rcases k01 k with rfl|O
  ·have u:=vv (C.o 0 (k0x _) q (.inl rfl));have x:=vv (D.o.setCell (p:=⟨w.heap.size,0,qc⟩) lr (.slice qc 0 0));have j:(r.setCell ⟨w.heap.size,0,qc⟩ (.slice qc 0 0)).cell? ⟨w.heap.size,0,qc⟩=qh (.slice qc 0 0):=q0p E;clear q g hr f;go_wp2;refine qk (v:=q0I qc 0 0) (by simp [results,results125,go_sem,j]) rfl ⟨qc,0,rfl,?_,fun a h=>(by cases h),x.o⟩;have e:toL (val xs)=[]:=k1u u.o.len;rw[e];exact Rd.nil _
  ·obtain⟨m,rfl⟩:∃m,k=m+1:=⟨k-1,by omega⟩;have G:=z.o;obtain⟨b,off,rfl,T,j⟩:=g.cell (by omega);have hx:=j m (by omega);clear j;by_cases d:nth xs m=0
   ·have y:(((nth xs m:Nat):Int)==0)=qj:=by rw[d];rfl
    have J:=vv d;clear d g hr f;go_wp2;go_round
    case rel=>exact⟨m,by omega,by go_num,fun i hi=>by
     rcases k1I hi with rfl|h
     ·exact J.o
     ·exact q i (by omega)⟩
    case measure=>simp [intOf]
   ·have y:(((nth xs m:Nat):Int)==0)=qe:=by rw[k09];omega
    have u:=vv (Rd.cap (C.o (m+1) (by omega) q (.inr d)));have P:b<w.heap.size:=by obtain⟨U,Q,e,h,_⟩:=z.o.cell (by omega);cases e;exact h
    have x:=vv (D.o.setCell (p:=⟨w.heap.size,0,qc⟩) lr (.slice (qh ⟨b,off,qc⟩) (m+1) (m+1)));have j:(r.setCell ⟨w.heap.size,0,qc⟩ (.slice (qh ⟨b,off,qc⟩) (m+1) (m+1))).cell? ⟨w.heap.size,0,qc⟩=qh (.slice (qh ⟨b,off,qc⟩) (m+1) (m+1)):=q0p E;have H:qm (Rd (r.setCell ⟨w.heap.size,0,qc⟩ (.slice (qh ⟨b,off,qc⟩) (m+1) (m+1))) (qh ⟨b,off,qc⟩) (m+1) (m+1) (toL (val xs))):=vv (u.o.other _ _ _ (fun a e=>by cases e;show b≠w.heap.size;omega));clear d q g hr f G;go_wp2;exact qk (v:=q0I (qh ⟨b,off,qc⟩) (m+1) (m+1)) (by simp [results,results125,go_sem,j]) rfl ⟨qh ⟨b,off,qc⟩,m+1,rfl,H.o,fun a h=>by simpa using h,x.o⟩
theorem Of1(w:qf):ql qd 55 #[.int .u64 1] w fun e w'=>∃A,e=.returned (q0I A 1 1)/\Rd w' A 1 1 (toL 1)/\qi w.heap.size w w':=by
 go_enter func55,ntmps55;go_wp2_with fail;obtain⟨g,h⟩:=R1.two_words (w.alloc (.cells #[.slice qc 0 0] 37)) 1 0 (by omega) (by omega) 54;have j:=(NatCell.made w 37).below h;have k:=(qb w.heap.size w).alloc (o:=.cells #[.slice qc 0 0] 37) lr;have u:=vv j;have x:=vv (k.trans (h.mono (by simp)));have l:(w.alloc (.cells #[.slice qc 0 0] 37)).heap.size=w.heap.size+1:=by simp
 rw[l] at g;clear h j k l;refine(trimmed (qh ⟨w.heap.size+1,0,qc⟩) 2 2 [1,0] _ g).mono ?_;rintro e c ⟨b,m,rfl,i,n,d⟩;have y:m=1:=i.words.symm;subst y;have p:qm (Rd c b 1 1 (toL 1)):=vv i;have f:=vv (u.o.below d);have q:=vn x d;have z:=f.o.c0;have fz:=f.o.fz;have lt:=f.o.lt;have r:qm (Rd (c.setCell ⟨w.heap.size,0,qc⟩ (.slice b 1 1)) b 1 1 (toL 1)):=vv (p.o.other _ _ _ (fun a e=>by have:=n a e;cases this;simp));have s:qm (qi w.heap.size w (c.setCell ⟨w.heap.size,0,qc⟩ (.slice b 1 1))):=vv (q.o.setCell lr _);have t:(c.setCell ⟨w.heap.size,0,qc⟩ (.slice b 1 1)).cell? ⟨w.heap.size,0,qc⟩=qh (.slice b 1 1):=q0p z;clear d i n g;go_wp2;exact qk (v:=q0I b 1 1) (by simp [results,results55,go_sem,t]) rfl ⟨b,rfl,r.o,s.o⟩
end Nat_
namespace Rtp
open Go Go.RowKit R5
theorem qb3{W:List Nat}{N:Nat}(hl:Lim W)(hv:val W=N)(hw:W.length=words N):W=toL N:=q3j hw fun i _=>by rw[q0Z,<- hv,q3d hl]
theorem q4M(N:Nat):((bl N+7)/8+3)/4=words N:=by
 have b:=A.bl_words N;have a:N<4294967296^(((bl N+7)/8+3)/4):=by rw[qbj];exact k02 (A.lt_bytes N) (k04 (by decide) (by omega))
 have c:=q0X a;omega
theorem qad(g o:Nat)(u:Int)(w:qf)(h:IntAt w g o u)(sN:bl u.natAbs<=4294967296):ql qd 213 #[.pointer (qh ⟨g,o,qc⟩)] w fun e w'=>∃A n,e=.returned (q0I A n n)/\Rd w' A n n (toL u.natAbs)/\Fr w.heap.size A/\qi w.heap.size w w':=by
 obtain⟨M,y⟩:=yx (w.alloc (.cells #[.slice qc 0 0] 37));have O:qi w.heap.size w M:=by rw[y];exact(qb _ w).alloc lr _
 have c0:NatCell M w.heap.size:=by rw[y];exact NatCell.made _ _
 have X:=vv (A.Bytes g o u M (h.below O) sN);have Y:=vv (q4M u.natAbs);obtain⟨N,hN⟩:=yx (u.natAbs);rw[<- hN] at X Y sN ⊢;have b3:=vv y;have Z:=vv O;have b4:=vv c0;have b5:=vv sN;clear h y O c0 sN hN;go_enter func213,ntmps213;go_wp2_with fail;rw[<- b3.o];refine X.o.mono ?_;rintro e a ⟨B,m,rfl,hm,a2,H⟩;have a3:=vv a2;have b6:=vv H;have a4:=vv (b4.o.below H);have I:qm (w.heap.size<a.heap.size):=vv a4.o.lt;obtain⟨L,P⟩:=yx ((m+3)/4);have b7:qm (L=words N):=vv (by rw[P,hm];exact Y.o);have d3:m<=4294967296:=by have:=b5.o;omega
 have a5:L<=35184372088832:=by omega
 have d4:(L:Int)<=35184372088832:=by omega
 have b8:((m:Int)+3)/4=(L:Int):=by omega
 have d5:(m:Int)<=4294967296:=by omega
 have d6:=AB.mk L a5;have HL:=vv P;have H1:qm (Own (a.alloc (.cells (madeCells #[.int .u32 0] L) 54)) a.heap.size 54 (List.replicate L 0)):=vv (Own.made a L 54);have H3:qm (qi a.heap.size a (a.alloc (.cells (madeCells #[.int .u32 0] L) 54))):=vv ((qb _ a).alloc lr _);clear a2 H P hm;go_wp2;clear b8;go_loopw [17] (fun t wr=>∃(i:Nat) (W:List Nat),t=.int .i64 i/\i<=m/\Own wr a.heap.size 54 W/\W.length=L/\val W=hi N (m-i)/\qi a.heap.size a wr) (fun t _=>m-(intOf t).toNat)
 case atStart=>exact⟨0,List.replicate L 0,rfl,k0x _,H1.o,k0I,by rw[q0b,Nat.sub_zero,q9p a3.o.lt],H3.o⟩
 case round =>
  obtain⟨i,W,rfl,b9,c,z,f,l⟩:=hrel;have a0:=vv c;have a6:=vv z;have HB:=vv l;by_cases him:i<m
  ·obtain⟨k,Q⟩:=yx (m-1-i);have a7:val W=hi N (k+1):=by rw[f];congr 1;omega
   have d7:(m:Int)-1-(i:Int)=(k:Int):=by omega
   obtain⟨b,off,e,a8,a9⟩:=a3.o.cell (by omega);subst e;have b1:=(l.cell (p:=⟨b,off+i,qc⟩) a8).trans (a9 i him);rw[<- Q] at b1;obtain⟨q,hq⟩:=yx (k/4);have d8:q<L:=by have:=HL.o;omega
   have J:q<W.length:=by omega
   have d9:(k:Int)/4=(q:Int):=by omega
   have d0:(k:Int)<=4294967296:=by omega
   have d1:(q:Int)<(L:Int):=by omega
   obtain⟨r,hr⟩:=yx (k%4);have e0:(k:Int).tmod 4=(r:Int):=by rw[k1X (by omega)];omega
   have e1:IntKind.i64.wrap (q:Int)=(q:Int):=by rw[qo];omega
   have e3:(0:Int)<=(q:Int):=by omega
   obtain⟨s1,F,R,G⟩:=q4F c.2 J (show k=4*q+r by omega) (by omega) a7;have b2:=c.cell J;have e4:=c.frozen q;have e5:=c.lt;have S:=vv (c.set (x:=nth W q+bt N k*256^r) J F rfl);have c2:=qay N k;obtain⟨C,T⟩:=yx (bt N k);obtain⟨x,hx⟩:=yx (nth W q);rw[<- T,<- hx] at s1 F G S;rw[<- T] at R c2 b1;rw[<- hx] at b2;have e6:IntKind.u32.wrap (C:Int)=(C:Int):=by rw[qp];omega
   obtain⟨D,U⟩:=yx (C*256^r);rw[<- U] at s1 F R G S;obtain⟨s,hs⟩:=yx (8*r);have e7:IntKind.i64.wrap (8*(r:Int))=(s:Int):=by rw[qo];omega
   have e8:(0:Int)<=(s:Int):=by omega
   have d2:(s:Int)<=32:=by omega
   have e9:IntKind.u32.wrap ((C:Int)*2^s)=(D:Int):=by
    have e:(C:Int)*2^s=(D:Int):=by
     have e2:(2:Int)^s=((256^r:Nat):Int):=by rw[hs,k0D,Int.pow_mul];rfl
     rw[e2,U,k08]
    rw[e,qp];omega
   have c3:qm (hi N k=hi N (m-(i+1))):=vv (by rw[Q];congr 1;omega);have c4:=vv G;clear a8 a9 l c a7 f z hr hq Q T hx U hs F R G;go_wp2;refine q02 (fun w'=>w'.cell? ⟨a.heap.size,q,qc⟩=qh (.int .u32 (x:Int))) 13
    (.still 0 (.still 1 (.still 2 (.still 3 (.still 4 (.still 5 (.still 6 (.still 7 (.still 8 (.still 9 (.still 10 (.still 11 (.still 12 .done))))))))))))) (by kernel_rfl) (by kernel_rfl) (fun _ _ d _ _ h=>by cases d<;>exact h) b2 (fun hS0=>?_)
   iterate 13
    refine q01 (v:=?_) rfl (by rfl) ?_ ?_;rotate_left
    ·intro w f0;go_simp;with_reducible rfl
    simp only[Act.put,sa,sb,sc]
   refine q07 ?_;go_wp2;go_roundw
   case rel=>exact⟨i+1,W.set q (x+D),by go_num,by omega,S.o,by rw[k07];exact a6.o,c4.o.trans c3.o,(HB.o.drew).setCell lr _⟩
   case measure=>simp [intOf];omega
  ·obtain rfl:i=m:=by omega
   rw[Nat.sub_self,q7r] at f;have f1:=vv f;have K:=a4.o.below l;have c1:=K.c0;have l1:=K.lt;have f2:=K.fz;have a1:(i:Int)<=(i:Int):=Int.le_refl _;have c5:=vv (qb3 c.2 f (by rw[z];exact b7.o));obtain⟨V,j⟩:=yx (wr.setCell ⟨w.heap.size,0,qc⟩ (.slice (qh ⟨a.heap.size,0,qc⟩) L L));have E:V.cell? ⟨w.heap.size,0,qc⟩=qh (.slice (qh ⟨a.heap.size,0,qc⟩) L L):=by rw[j];exact q0p c1
   have c6:qm (Rd V (qh ⟨a.heap.size,0,qc⟩) L L (toL N)):=vv (by rw[<- c5.o,j];exact(a0.o.setOther (by show a.heap.size≠w.heap.size;have:=I.o;omega) _).rd a6.o.symm lr a5);have c7:qm (qi w.heap.size w V):=vv (by rw[j];exact(Z.o.trans ((b6.o.mono Z.o.size).trans (HB.o.mono (by have:=I.o;omega)))).setCell lr _);have c8:=vv j;have c9:=vv E;clear c f z l him b9 a1 j E;go_wp2;rw[<- c8.o];have E:=c9.o;exact qk (v:=q0I (qh ⟨a.heap.size,0,qc⟩) L L) (by simp [results,results213,go_sem,E]) rfl ⟨_,_,rfl,c6.o,Fr.at_ (by show w.heap.size<=a.heap.size;have:=I.o;omega),c7.o⟩
end Rtp
namespace Lex
open Go Go.RowKit R5
theorem zero_or(p:Nat):(p=0/\((p:Int)==0)=qj)\/(p≠0/\((p:Int)==0)=qe):=by
 rcases k01 p with h|h
 ·exact .inl ⟨h,by rw[h];rfl⟩
 ·exact .inr ⟨by omega,by rw[k09];omega⟩
end Lex
end Go.Proofs.YtabcgemembkkcaaGreatDoor
