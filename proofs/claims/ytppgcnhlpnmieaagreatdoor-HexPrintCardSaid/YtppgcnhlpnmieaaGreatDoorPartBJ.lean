/- Lemmas. -/
import Derived.Test.YtppgcnhlpnmieaaGreatDoorPartBI
import Derived.Test.YtppgcnhlpnmieaaGreatDoorPartBB
import Derived.Test.YtppgcnhlpnmieaaGreatDoorPartBH
import Derived.Lib.RepeatB
set_option linter.all false
set_option maxHeartbeats 4000000
set_option maxRecDepth 1000000
namespace Go.Proofs.YtppgcnhlpnmieaaGreatDoor.Rpt
open Go Go.RowKit R5 Scn
abbrev nought:ByteArray:=⟨#[48]⟩
def nts(c:Nat):ByteArray:=⟨(List.replicate c 48).toArray⟩
theorem q6L(c:Nat):(nts c).size=c:=by
 show(List.replicate c (48:UInt8)).toArray.size=c;simp
theorem qbM(w:World):Calls Tryz.prog 68 #[.string nought,.int .i64 1] w fun e w'=>e=.returned (.string (nts 1))/\Below w.heap.size w w':=by
 go_enter Tryz.func68,Tryz.ntmps68
 go_wp2;go_ret
 exact⟨rfl,Below.refl _ _⟩
abbrev K0:ByteArray:=⟨#[48,48,48,48,48,48,48,48,48,48,48,48,48,48,48,48,48,48,48,48,48,48,48,48,48,48,48,48,48,48,48,48,48,48,48,48,48,48,48,48,48,48,48,48,48,48,48,48,48,48,48,48,48,48,48,48,48,48,48,48,48,48,48,48]⟩
theorem q7I(c:Nat)(h:c<=64):K0.extract 0 c=nts c:=by
 have h1:=Lib.fast_ok K0.data.toList 48 64 (by rfl) nought c c (by show 1*c=c;omega) h (by rfl);have h2:Lib.repeatL nought.data.toList c=List.replicate c 48:=by
  have:=Lib.repeatL_replicate 48 1 c
  rwa [Nat.mul_one] at this
 rw[h2] at h1;exact h1
theorem qdF(c:Nat)(hc:c<=2001)(w:World):Calls Tryz.prog 146 #[.int .u64 1,.int .u64 c] w fun e w'=>e=.returned (.tuple #[.int .u64 0,.int .u64 c])/\w=w':=by
 have h:=Tryz.bits_Mul 1 c (by omega) (by omega) w;rw[Nat.one_mul,Nat.div_eq_of_lt (by omega),Nat.mod_eq_of_lt (by omega)] at h;exact h.mono fun _ _ h=>⟨h.1,h.2.symm⟩
theorem q4r(K:ByteArray)(b:Bool)(h:pre K nought.data.toList=b)(w:World):Calls Tryz.prog 147 #[.string K,.string nought] w fun e w'=>e=.returned (.bool b)/\w=w':=by
 have:=qbS K nought w
 rwa [h] at this
theorem q7H(c:Nat)(w:World)(h1:2<=c)(h2:c<=64):
  Calls Tryz.prog 68 #[.string nought,.int .i64 (c:Int)] w fun e w'=>e=.returned (.string (nts c))/\Below w.heap.size w w':=by
 have a1:(2:Int)<=(c:Int):=by omega
 have a2:(c:Int)<=64:=by omega
 have t0:((c:Int)==0)=false:=by rw[beq_eq_false_iff_ne];omega
 have t1:((c:Int)==1)=false:=by rw[beq_eq_false_iff_ne];omega
 have tp:(0:Int)<(c:Int):=by omega
 have a0:=vv fun w=>qdF c (by omega) w
 have HX:=vv (q7I c h2);clear h1 h2;go_enter Tryz.func68,Tryz.ntmps68
 go_wp2_with fail
 refine(a0.o _).mono ?_;rintro e w1 ⟨rfl,hw⟩;subst hw;go_wp2_with fail
 refine(q4r _ false (by decide +kernel) _).mono ?_;rintro e w1 ⟨rfl,hw⟩;subst hw;go_wp2_with fail
 refine(q4r _ false (by decide +kernel) _).mono ?_;rintro e w1 ⟨rfl,hw⟩;subst hw;go_wp2_with fail
 refine(q4r _ true (by decide +kernel) _).mono ?_;rintro e w1 ⟨rfl,hw⟩;subst hw;go_wp2_with fail
 go_ret
 exact⟨congrArg (fun x=>Ending.returned (Value.string x)) HX.o,Below.refl _ _⟩
theorem qdX{w:World}(ts:Array TypeId)(t:TypeId)(x y z:Int):
  (Builtin.min_ ts t #[.int .i64 x,.int .i64 y,.int .i64 z]).run Tryz.prog w=.ok (.int .i64 (if z<(if y<x then y else x) then z else(if y<x then y else x))) w:=by
 simp [Builtin.min_,Builtin.min2]
theorem qa6(c q m:Nat)(hq1:1<=q)(hqc:q<c)(hm:1<=m):
  ∃k,1<=k/\k<=q/\q+k<=c/\min (min (c-q) q) m=k:=⟨min (min (c-q) q) m,by omega,by omega,by omega,rfl⟩
abbrev cs(q:Nat):List Value:=Lib.byteCells (List.replicate q 48)
theorem q6z(c:Nat)(w:World)(h1:65<=c)(h2:c<=2001):
  Calls Tryz.prog 68 #[.string nought,.int .i64 (c:Int)] w fun e w'=>e=.returned (.string (nts c))/\Below w.heap.size w w':=by
 have d2:(65:Int)<=(c:Int):=by omega
 have d3:(c:Int)<=2001:=by omega
 have t0:((c:Int)==0)=false:=by rw[beq_eq_false_iff_ne];omega
 have t1:((c:Int)==1)=false:=by rw[beq_eq_false_iff_ne];omega
 have tp:(0:Int)<(c:Int):=by omega
 have tw:IntKind.u64.wrap (c:Int)=(c:Int):=by rw[IntKind.wrap_u64];omega
 have a7:=vv fun w=>qdF c (by omega) w
 have HC:=vv (And.intro h1 h2);have HL:Hid ((128:Int)<(c:Int)\/(c:Int)<=128):=vv (by omega);obtain⟨W0,a3⟩:=yx (w.alloc (.cells #[.pointer none,.slice none 0 0] 187));have b0:Below w.heap.size w W0:=by rw[a3];exact(Below.refl _ w).alloc lr _
 have c1:=vv b0;have HG:=vv (Bld.Grow_fresh w.heap.size c W0 (by rw[a3];exact heap_alloc_new w _) (by omega) (by omega));have c2:=vv a3;clear a3 b0 h1 h2;rcases HL.o with c3|c3;go_enter Tryz.func68,Tryz.ntmps68
 go_wp2_with fail
 refine(a7.o _).mono ?_;rintro e w1 ⟨rfl,hw⟩;subst hw;go_wp2_with fail
 rotate_left;go_enter Tryz.func68,Tryz.ntmps68
 go_wp2_with fail
 refine(a7.o _).mono ?_;rintro e w1 ⟨rfl,hw⟩;subst hw;go_wp2_with fail
 refine(q4r _ false (by decide +kernel) _).mono ?_;rintro e w1 ⟨rfl,hw⟩;subst hw;go_wp2_with fail
 refine(q4r _ false (by decide +kernel) _).mono ?_;rintro e w1 ⟨rfl,hw⟩;subst hw;go_wp2_with fail
 refine(q4r _ false (by decide +kernel) _).mono ?_;rintro e w1 ⟨rfl,hw⟩;subst hw;go_wp2_with fail
 rotate_left;all_goals
  rw[<- c2.o];refine HG.o.mono ?_;rintro e W1 ⟨rfl,h1,b1⟩;have a8:=vv (c1.o.trans b1);have a9:=vv (Bld.WriteString w.heap.size w.heap.size [] nought W1 (Lib.IsBuilderF.of (Or.inr h1)) (by decide) a8.o.size);clear h1 b1;go_wp2_with fail
  refine a9.o.mono ?_;rintro e W2 ⟨rfl,h2,b2⟩;have c4:=vv (a8.o.trans b2);rw[List.nil_append,Lib.strCells_eq] at h2;have H2:Hid (Bld.IsF w.heap.size w.heap.size (cs 1) W2):=vv (Or.inr h2);clear h2 b2 a9;go_wp2_with fail
  go_loopg [] (c-1) (fun g wx=>∃q:Nat,1<=q/\q+g=c/\Bld.IsF w.heap.size w.heap.size (cs q) wx/\Below w.heap.size w wx)
  case atStart=>exact⟨1,lr,by have:=HC.o.1;omega,H2.o,c4.o⟩
  case round =>
   obtain⟨q,c5,b5,hB,b6⟩:=hrel;have b7:(cs q).length=q:=by rw[Lib.byteCells_length,List.length_replicate]
   have a0:=vv (Tryz.Builder_Len_f w.heap.size w.heap.size _ wr hB);rw[b7] at a0;have a1:=vv (Bld.String w.heap.size w.heap.size (List.replicate q 48) wr hB (by intro hq;have:=congrArg List.length hq;simp at this;omega));have b8:=vv b6;clear hB b6;cases gk with
   | zero =>
    obtain rfl:q=c:=by omega
    have c6:¬((q:Int)<(q:Int)):=by omega
    go_wp2_with fail
    refine a0.o.mono ?_;rintro e w' ⟨rfl,hw⟩;rw[hw];clear hw;go_wp2_with fail
    refine a1.o.mono ?_;rintro e W3 ⟨rfl,h3,b3⟩;go_wp2_with fail
    go_ret
    exact⟨rfl,b8.o.trans b3⟩
   | succ g =>
    obtain⟨k,a4,a5,a6,a2⟩:=qa6 c q c c5 (by omega) (by omega);have b9:∀(ts:Array TypeId) (t:TypeId) (W:World),(Builtin.min_ ts t #[.int .i64 ((c:Int)-(q:Int)),.int .i64 (q:Int),.int .i64 (c:Int)]).run Tryz.prog W=.ok (.int .i64 (k:Int)) W:=fun ts t W=>by
     rw[qdX];congr 2
     rw[<- a2];omega
    have HE:Hid ((nts q).extract 0 k=nts k):=vv (by
     rw[Lib.extract_eq];simp only[nts,List.drop_zero,Nat.sub_zero,List.take_replicate];rw[Nat.min_eq_left a5])
    have c7:(nts q).size=q:=q6L q;obtain⟨S,hS⟩:=yx (nts q);rw[<- hS] at HE c7;rw[show(⟨(List.replicate q 48).toArray⟩:ByteArray)=S from hS.symm] at a1;have HK:=vv (And.intro a2 (And.intro a4 (And.intro a5 (And.intro a6 b5))));have c6:(q:Int)<(c:Int):=by omega
    have c8:(1:Int)<=(q:Int):=by omega
    have c9:(k:Int)<=(q:Int):=by omega
    have d0:k<=q:=a5;clear a2 a4 a6 b5 b7 hS;go_wp2_with fail
    refine a0.o.mono ?_;rintro e w' ⟨rfl,hw⟩;rw[hw];clear hw;go_wp2_with fail
    refine a0.o.mono ?_;rintro e w' ⟨rfl,hw⟩;rw[hw];clear hw;go_wp2_with fail
    refine a0.o.mono ?_;rintro e w' ⟨rfl,hw⟩;rw[hw];clear hw;go_wp2_with fail
    refine a1.o.mono ?_;rintro e W3 ⟨rfl,h3,b3⟩;have c0:=vv (b8.o.trans b3);have d1:=vv (Bld.WriteString w.heap.size w.heap.size _ (S.extract 0 k) W3 h3 (by
     have:=HC.o;have:=HK.o.2.2.2.1;rw[HE.o,q6L,Lib.byteCells_length,List.length_replicate];omega) c0.o.size)
    clear h3 b3;go_wp2_with fail
    refine d1.o.mono ?_;rintro e W4 ⟨rfl,h4,b4⟩;go_wp2_with fail
    go_roundg (c-(q+k))
    case measure=>have:=HK.o;omega
    case rel =>
     obtain⟨_,a4,_,a6,_⟩:=HK.o;refine⟨q+k,by omega,by omega,Or.inr ?_,c0.o.trans b4⟩;rw[HE.o,Lib.strCells_eq,<- Lib.byteCells_append] at h4;rw[show(List.replicate q (48:UInt8))++(nts k).data.toList=List.replicate (q+k) 48 by
      show List.replicate q (48:UInt8)++(List.replicate k (48:UInt8)).toArray.toList=_;rw[List.toList_toArray,List.replicate_append_replicate]] at h4
     exact h4
theorem Repeat(c:Nat)(w:World)(h1:1<=c)(h2:c<=2001):
  Calls Tryz.prog 68 #[.string nought,.int .i64 (c:Int)] w fun e w'=>e=.returned (.string (nts c))/\Below w.heap.size w w':=by
 rcases Nat.lt_or_ge c 2 with h|h
 ·obtain rfl:c=1:=by omega
  exact qbM w
 ·rcases Nat.lt_or_ge 64 c with h3|h3
  ·exact q6z c w (by omega) h2
  ·exact q7H c w h h3
end Go.Proofs.YtppgcnhlpnmieaaGreatDoor.Rpt
