/- Lemmas. -/
import Derived.Test.YtppgcnhlpnmieaaGreatDoorPartBF
import Derived.Lib.FrozenHead
import Derived.Lib.UnsafeStr
import Derived.Lib.AppendStr
import Derived.Laws.Externs
import Derived.Shelf.RegionOpenPlain
import Derived.Test.YtppgcnhlpnmieaaGreatDoorPartAQ
import Derived.Test.YtppgcnhlpnmieaaGreatDoorPartBE
import Derived.Test.YtppgcnhlpnmieaaGreatDoorPartBC
import Derived.Test.YtppgcnhlpnmieaaGreatDoorPartAG
import Derived.Test.YtppgcnhlpnmieaaGreatDoorPartAO
import Derived.Test.YtppgcnhlpnmieaaGreatDoorPartAM
import Derived.Test.YtppgcnhlpnmieaaGreatDoorPartAT
import Derived.Test.YtppgcnhlpnmieaaGreatDoorPartAV
set_option linter.all false
set_option maxHeartbeats 8000000
set_option maxRecDepth 100000
namespace Go.Proofs.YtppgcnhlpnmieaaGreatDoor.Bld
open Go Go.RowKit R5
abbrev AtF(B b:Nat)(p:Value)(bs:List Value)(w:World):Prop:=Lib.BuilderAtF 187 5 B b p bs w
abbrev IsF(B b:Nat)(bs:List Value)(w:World):Prop:=Lib.IsBuilderF 187 5 B b bs w
theorem szB:(Tryz.prog.info? 187).map (·.size)=some 2:=by kernel_rfl
theorem liB:liesAt Tryz.prog Tryz.prog.depth 187 (2/Tryz.prog.cellsOf 187) 0 187 1=true:=by kernel_rfl
theorem cl8:Tryz.prog.cellsOf 5=1:=by kernel_rfl
theorem in8:(Tryz.prog.info? 5).map (fun i=>(i.zero,i.size,i.bytes))=some (some (.int .u8 0),1,1):=by kernel_rfl
theorem q2J(b:Nat)(w:World)(h0:w.cell? ⟨b,0,none⟩=some (.pointer (some ⟨b,0,none⟩))):
  Calls Tryz.prog 231 #[.pointer (some ⟨b,0,none⟩)] w fun e w'=>e=.returned (.tuple #[])/\w'=w:=by
 obtain⟨j,hj,_⟩:=Option.map_eq_some_iff.1 szB;go_enter Tryz.func231,Tryz.ntmps231
 go_wp2;rw[Lib.run_neq_ptr_same w _ Tryz.underlying185 hj];go_wp2;go_end0
 exact⟨rfl,rfl⟩
theorem q1N(b:Nat)(w:World)(h0:w.cell? ⟨b,0,none⟩=some (.pointer none))(hsh:w.shape? b=some (187,2))(hfz:w.frozen? ⟨b,0,none⟩=false):
  Calls Tryz.prog 231 #[.pointer (some ⟨b,0,none⟩)] w fun e w'=>e=.returned (.tuple #[])/\w'=w.setCell ⟨b,0,none⟩ (.pointer (some ⟨b,0,none⟩)):=by
 obtain⟨j,hj,a0⟩:=Option.map_eq_some_iff.1 szB;go_enter Tryz.func231,Tryz.ntmps231
 go_wp2;rw[Lib.run_to_unsafe w ⟨b,0,none⟩ Tryz.underlying185 Tryz.underlying260 hj (by rw[a0];decide) hsh (Nat.zero_lt_succ 1)];simp only[Result.andThen];rw[Oper.upon_value];go_wp2;rw[run_callFunc_extern Tryz.func299 (by kernel_rfl) (by kernel_rfl) (by kernel_rfl) (e:=Extern.AbiNoEscape.same) (by kernel_rfl)];rw[Lib.run_noEscape];simp only[Result.andThen];rw[Oper.upon_value];go_wp2;rw[Lib.run_from_unsafe w ⟨b,0,none⟩ Tryz.underlying260 Tryz.underlying185 hj hsh liB];simp only[Result.andThen];rw[Oper.upon_value];go_wp2;go_end0
 exact⟨rfl,rfl⟩
abbrev At(B b:Nat)(p:Value)(bs:List Value)(w:World):Prop:=Lib.BuilderAt 187 5 B b p bs w
abbrev Is(B b:Nat)(bs:List Value)(w:World):Prop:=Lib.IsBuilder 187 5 B b bs w
theorem q92(B b:Nat)(bs:List Value)(w:World)(h:Is B b bs w):
  Calls Tryz.prog 231 #[.pointer (some ⟨b,0,none⟩)] w fun e w'=>e=.returned (.tuple #[])/\(At B b (.pointer (some ⟨b,0,none⟩)) bs w'/\Below B w w'):=by
 rcases h with h|h
 ·refine(q1N b w h.cell0 h.shape h.frozen0).mono ?_;rintro e w' ⟨rfl,rfl⟩;exact⟨rfl,h.used _,(Below.refl B w).setCell (p:=⟨b,0,none⟩) h.1 _⟩
 ·refine(q2J b w h.cell0).mono ?_;rintro e w' ⟨rfl,rfl⟩;exact⟨rfl,h,Below.refl B _⟩
theorem q6t(B b:Nat)(bs:List Value)(w:World)(h:IsF B b bs w):
  Calls Tryz.prog 231 #[.pointer (some ⟨b,0,none⟩)] w fun e w'=>e=.returned (.tuple #[])/\(AtF B b (.pointer (some ⟨b,0,none⟩)) bs w'/\Below B w w'):=by
 rcases h with h|h
 ·refine(q1N b w h.cell0 h.shape h.frozen0).mono ?_;rintro e w' ⟨rfl,rfl⟩;exact⟨rfl,h.used _,(Below.refl B w).setCell (p:=⟨b,0,none⟩) h.1 _⟩
 ·refine(q2J b w h.cell0).mono ?_;rintro e w' ⟨rfl,rfl⟩;exact⟨rfl,h,Below.refl B _⟩
theorem WriteByte(B b:Nat)(bs:List Value)(c:Int)(w:World)(h:Is B b bs w)(hlen:bs.length+1<=140737488355328)(hBw:B<=w.heap.size):
  Calls Tryz.prog 136 #[.pointer (some ⟨b,0,none⟩),.int .u8 c] w fun e w'=>e=.returned .nilIface/\(At B b (.pointer (some ⟨b,0,none⟩)) (bs++[.int .u8 c]) w'/\Below B w w'):=by
 obtain⟨i0,hi,a6,a7,a8⟩:=info_parts in8;go_enter Tryz.func136,Tryz.ntmps136
 go_wp2_with (go_at_call 231;refine(q92 B b bs _ h).mono ?_)
 rintro e w1 ⟨rfl,h1,a3⟩;obtain⟨hB,v,a4,a2,a9⟩:=h1;have c0:w1.cell? ⟨b,0,none⟩=some (.pointer (some ⟨b,0,none⟩)):=by rw[Lib.cell_of_heap a4];rfl
 have c1:w1.cell? ⟨b,1,none⟩=some v:=by rw[Lib.cell_of_heap a4];rfl
 go_wp2_with (at_builtin;refine wpList_append_own _ rfl _ _ 132 rfl B 5 i0 (.int .u8 0) 1 1 Tryz.underlying132 hi a6 a7 a8 rfl (by decide) _ _ _ rfl (a2.alloc _) ⟨w1.heap.size,0,none⟩ 1 1 [.int .u8 c] rfl rfl ?c1 ?c2 ?c3 ?c4 ?c5 ?_)
 case c1 =>
  intro j u hj
  match j,hj with
  | 0,hj=>simp at hj;subst hj;simp [Addr.add]
 case c2=>intro u hu;simp at hu;subst hu;rfl
 case c3=>unfold maxLen;omega
 case c4=>omega
 case c5=>have:=a3.size;simp;omega
 intro v' w2 a0 a1 _;have b0:b<w1.heap.size:=by
  rcases Nat.lt_or_ge b w1.heap.size with h'|h'
  ·exact h'
  ·simp [Array.getElem?_eq_none h'] at a4
 have a5:w2.heap[b]?=some (.cells #[.pointer (some ⟨b,0,none⟩),v] 187 (0,0)):=by
  rw[a1.block b (by simp;omega) (fun e=>a9 e.symm),Lib.alloc_old w1 _ b b0];exact a4
 have d0:w2.cell? ⟨b,0,none⟩=some (.pointer (some ⟨b,0,none⟩)):=by rw[Lib.cell_of_heap a5];rfl
 have d1:w2.cell? ⟨b,1,none⟩=some v:=by rw[Lib.cell_of_heap a5];rfl
 have f1:w2.frozen? ⟨b,1,none⟩=false:=Lib.frozen_of_heap a5 1;obtain⟨g,cap,rfl⟩:∃g cap,v'=.slice (some ⟨g,0,none⟩) (bs.length+1) cap:=by
  rcases a0.2 with ⟨_,h0⟩|⟨g,cap,cur,hv,_⟩
  ·omega
  ·exact⟨g,cap,hv⟩
 go_wp2;go_ret
 refine⟨rfl,?_,?_⟩
 ·exact Lib.BuilderAt.put (T:=187) (e:=5) hB a5 (bs':=bs++[.int .u8 c]) (by simpa using a0) (by decide)
 ·exact((a3.alloc (by have:=a3.size;omega) _).grown a1 (by have:=a3.size;simp;omega) (fun k hk=>(a2.lt k hk).1)).setCell (p:=⟨b,1,none⟩) hB _
theorem String(B b:Nat)(l:List UInt8)(w:World)(h:IsF B b (Lib.byteCells l) w)(h0:l≠[]):
  Calls Tryz.prog 137 #[.pointer (some ⟨b,0,none⟩)] w fun e w'=>e=.returned (.string ⟨l.toArray⟩)/\(IsF B b (Lib.byteCells l) w'/\Below B w w'):=by
 obtain⟨p,hp,a4⟩:∃p,(p=.pointer none\/p=.pointer (some ⟨b,0,none⟩))/\AtF B b p (Lib.byteCells l) w:=by
  rcases h with h|h
  ·exact⟨_,.inl rfl,h⟩
  ·exact⟨_,.inr rfl,h⟩
 obtain⟨hB,v,a2,a0,a5⟩:=a4;have a6:l.length≠0:=by simpa using h0
 rw[Lib.byteCells_length] at a0;obtain⟨g,cap,cur,fz,rfl,a7,hg,b0,b1,a8,b2,a3⟩:∃g cap cur fz,v=.slice (some ⟨g,0,none⟩) l.length cap/\B<=g/\w.heap[g]?=some (.cells cur 5 fz)/\fz.2<=l.length*1/\l.length<=cap/\cap<=maxLen/\cur.size=cap*1/\cur.toList.take (l.length*1)=Lib.byteCells l:=by
  rcases a0.2 with ⟨_,hz⟩|⟨g,cap,cur,fz,hv,r⟩
  ·exact absurd hz a6
  ·exact⟨g,cap,cur,fz,hv,r⟩
 have c1:w.drew.cell? ⟨b,1,none⟩=some (.slice (some ⟨g,0,none⟩) l.length cap):=by
  have:w.drew.heap[b]?=some (.cells #[p,.slice (some ⟨g,0,none⟩) l.length cap] 187 (0,0)):=a2;rw[Lib.cell_of_heap this];rfl
 have b3:(Builtin.unsafeSliceData_ #[132] 274 #[.slice (some ⟨g,0,none⟩) l.length cap]).run Tryz.prog w.drew=.ok (.pointer (some ⟨g,0,none⟩)) w.drew:=
  Lib.run_unsafeSliceData_row _ _ _ _ _ _ (by omega)
 have b4:(Builtin.unsafeString_ #[274,3] 9 #[.pointer (some ⟨g,0,none⟩),.int .i64 l.length]).run Tryz.prog w.drew=.ok (.string ⟨l.toArray⟩) (w.drew.freeze ⟨g,0,none⟩ l.length):=by
  refine Lib.run_unsafeString_row w.drew 274 3 9 5 Tryz.underlying274 cl8 g cur.size (by have a9:w.drew.heap[g]?=some (.cells cur 5 fz):=hg;simp [World.shape?,a9]) l h0 (by omega) (by unfold maxLen at a8;omega) ?_;intro j x hx;have:=a0.cells (g:=g) rfl j (.int .u8 x.toNat) (by simp [Lib.byteCells,hx]);exact this
 have a1:IsF B b (Lib.byteCells l) (w.drew.freeze ⟨g,0,none⟩ l.length):=by
  have hA:AtF B b p (Lib.byteCells l) w.drew:=⟨hB,_,a2,by rw[Lib.byteCells_length];exact a0,a5⟩;have hF:=hA.froze (g:=g) (cap:=cap) (by rw[Lib.byteCells_length];exact c1);rw[Lib.byteCells_length] at hF;rcases hp with rfl|rfl
  ·exact .inl hF
  ·exact .inr hF
 go_enter Tryz.func137,Tryz.ntmps137
 go_wp2;have mixed:Tryz.prog.follows Departure.mixedOrders=true:=by kernel_rfl
 go_region_o
 all_goals (go_wp2;go_ret;exact⟨rfl,a1,Lib.below_freeze (Below.drew (Below.refl B w)) (p:=⟨g,0,none⟩) a7 _⟩)
end Go.Proofs.YtppgcnhlpnmieaaGreatDoor.Bld
namespace Go.Proofs.YtppgcnhlpnmieaaGreatDoor.Hx
open Go Go.RowKit R5 Scn Fms Exa
def hx(d:Nat):UInt8:=([48,49,50,51,52,53,54,55,56,57,97,98,99,100,101,102]:List UInt8).getD d 0
def hexL(N:Nat):Nat->List UInt8
 | 0=>[]
 | k+1=>hx (N/16^k%16)::hexL N k
theorem hexL_len(N:Nat):∀k,(hexL N k).length=k
 | 0=>rfl
 | k+1=>by simp [hexL,hexL_len N k]
theorem q5J(N:Nat):∀(k p:Nat),p+1<=k->(hexL N k).take (k-p)=(hexL N k).take (k-(p+1))++[hx (N/16^p%16)]
 | 0,p,h=>by omega
 | k+1,p,h=>by
  rcases Nat.lt_or_ge p k with h1|h1
  ·have e1:k+1-p=(k-p)+1:=by omega
   have e2:k+1-(p+1)=(k-(p+1))+1:=by omega
   rw[e1,e2];simp only[hexL,List.take_succ_cons,List.cons_append];rw[q5J N k p h1]
  ·have e:p=k:=by omega
   subst e;simp [hexL]
theorem qa8(M s:Nat):M%2^(s+1)=2*(M/2%2^s)+M%2:=by
 rw[Nat.pow_succ,Nat.mul_comm (2^s) 2,Nat.mod_mul];omega
theorem dig(d:Nat)(h:d<(⟨#[48,49,50,51,52,53,54,55,56,57,97,98,99,100,101,102]⟩:ByteArray).size):(⟨#[48,49,50,51,52,53,54,55,56,57,97,98,99,100,101,102]⟩:ByteArray)[d]=hx d:=
 (by decide:∀d:Fin 16,(⟨#[48,49,50,51,52,53,54,55,56,57,97,98,99,100,101,102]⟩:ByteArray)[d.val]=hx d.val) ⟨d,h⟩
theorem row_below{w w':World}{base size n:Nat}{e:TypeId}{v:Value}{xs:List Value}(h:w.ownsRow base e size v n xs)(hb:Below w.heap.size w w'):w'.ownsRow base e size v n xs:=by
 refine⟨h.1,?_⟩;rcases h.2 with h|⟨g,cap,cur,hv,hg,hc,r⟩
 ·exact Or.inl h
 ·exact Or.inr ⟨g,cap,cur,hv,hg,(hb.block g (Array.getElem?_eq_some_iff.1 hc).1).trans hc,r⟩
theorem q9S{B b:Nat}{bs:List Value}{w w':World}(h:Bld.Is B b bs w)(hb:Below w.heap.size w w'):Bld.Is B b bs w':=by
 rcases h with ⟨hB,v,hk,ho,hn⟩|⟨hB,v,hk,ho,hn⟩
 ·exact Or.inl ⟨hB,v,(hb.block b (Array.getElem?_eq_some_iff.1 hk).1).trans hk,row_below ho hb,hn⟩
 ·exact Or.inr ⟨hB,v,(hb.block b (Array.getElem?_eq_some_iff.1 hk).1).trans hk,row_below ho hb,hn⟩
theorem Blk.under{B g:Nat}{w w':World}{t:TypeId}{cs:List Value}(h:Blk w g t cs)(hb:Below B w w')(hg:g<B):Blk w' g t cs:=(hb.block g hg).trans h
def SxI(N k b n c:Nat)(A:Option Addr)(w:World)(i:Value)(wr:World):Prop:=
 ∃(z:Int) (p:Nat),i=.int .i64 z/\z+1=p/\p<=k/\Bld.Is b b (Lib.byteCells ((hexL N k).take (k-p))) wr/\w.heap.size<b/\b<=wr.heap.size/\Blk wr w.heap.size 28 [.slice A n c]/\Below w.heap.size w wr
theorem q2A(A:Option Addr)(n c N least:Nat)(w:World)(ha:Rd w A n c (toL N))(hn:n<=16384)(hl:1<=least)(hl2:least<=65536):
  Calls Tryz.prog 57 #[q1u A n c,.int .i64 (least:Int)] w fun e w'=>e=.returned (.string ⟨(hexL N (max least ((bl N+3)/4))).toArray⟩)/\Below w.heap.size w w':=by
 obtain⟨w0,b2⟩:=yx (w.alloc (.cells #[.slice A n c] 28));have hb:Below w.heap.size w w0:=by rw[b2];exact(Below.refl _ _).alloc lr _
 have hQ:Blk w0 w.heap.size 28 [.slice A n c]:=by rw[b2];exact Blk.made w 28 [.slice A n c]
 have c1:bl N<=524288:=by
  have h:=ha.lt;rw[q00,q1J] at h;have:=q0t h;omega
 have c2:=vv (Pnt.Bits A n c N w0 (ha.below hb rfl) hn);have d1:=vv fun i w' (h:Below w.heap.size w w') (hi:i<=1048576)=>Pnt.Bit A n c N i w' (ha.below h rfl) hn hi
 obtain⟨s,hs⟩:=yx (bl N);rw[<- hs] at c2 c1 ⊢;have e1:(s:Int)<=524288:=by omega
 have e2:(least:Int)<=65536:=by omega
 have e3:(1:Int)<=least:=by omega
 obtain⟨k,hk⟩:=yx (max least ((s+3)/4));rw[<- hk];have HK:=vv hk;have c3:1<=k:=by omega
 have c4:k<=200000:=by omega
 have e4:(k:Int)<=200000:=by omega
 have HB:=vv hb;have HQ:=vv hQ;have HW:=vv b2;have b3:=vv (And.intro c3 c4);clear hb hQ b2 ha hn hl hl2 c1 hs hk c3 c4;go_enter Tryz.func57,Tryz.ntmps57
 go_wp2_with fail
 rw[<- HW.o];refine c2.o.mono ?_;rintro e w1 ⟨rfl,hB⟩;have c5:=vv (HQ.o.below hB);have c6:=vn HB hB;clear hB;have d2:Hid (max (least:Int) (((s:Int)+3)/4)=(k:Int)):=vv (by have:=HK.o;omega);go_wp2;rw[d2.o];have c7:SxI N k w1.heap.size n c A w (.int .i64 ((k:Int)-1)) (w1.alloc (.cells #[.pointer none,.slice none 0 0] 187)):=by
  refine⟨(k:Int)-1,k,rfl,by omega,lr,?_,c5.o.lt,by simp,c5.o.alloc _,c6.o.alloc c6.o.size _⟩;rw[Nat.sub_self,List.take_zero];exact Or.inl ⟨lr,_,heap_alloc_new w1 _,World.ownsRow_nil _ _ _ _,by simp [Value.ownBlock]⟩
 have d3:=vv c7;clear c7;go_loopw [9] (fun i wr=>SxI N k w1.heap.size n c A w i wr) (fun i _=>(intOf i+1).toNat)
 case atStart=>exact d3.o
 case round =>
  obtain⟨z,q,rfl,hz,hq,a0,a4,a5,a1,a2⟩:=hrel;by_cases h0:q=0
  ·subst h0;have b4:z = -1:=by omega
   subst b4;rw[Nat.sub_zero,List.take_of_length_le (by rw[hexL_len];exact lr)] at a0;have hS:=Bld.String w1.heap.size w1.heap.size (hexL N k) wr (by rcases a0 with h|h<;>exact Lib.IsBuilderF.of (by first|exact Or.inl h|exact Or.inr h)) (by
    intro h;have:=hexL_len N k;rw[h] at this;have:=b3.o.1;simp at *;omega)
   have HS:=vv hS;have a6:=vv a2;clear a0 a1 a2 hS;go_wp2_with fail
   refine HS.o.mono ?_;rintro e w3 ⟨rfl,_,hB⟩;have d4:=vv (a6.o.trans (hB.mono (Nat.le_of_lt a4)));clear hB;go_wp2;go_ret
   exact⟨rfl,d4.o⟩
  ·obtain⟨p,rfl⟩:∃p,q=p+1:=⟨q-1,by omega⟩;have d5:z=(p:Int):=by omega
   subst d5;have e5:(p:Int)<=200000:=by omega
   have b5:=vv a0;have b1:=vv a1;have a6:=vv a2;have b0:=vv hq;have a3:=vv (And.intro a4 a5);clear a0 a1 a2 hz hq h0 a4 a5;go_wp2;go_loopw [10,11] (fun d i wq=>∃(z:Int) (j:Nat),i=.int .i64 z/\z+1=j/\j<=4/\d=.int .i64 ((N/2^(4*p+j)%2^(4-j):Nat):Int)/\SxI N k w1.heap.size n c A w (.int .i64 (p:Int)) wq) (fun _ i _=>(intOf i+1).toNat)
   case atStart=>exact⟨3,4,rfl,rfl,lr,by rw[Nat.sub_self,Nat.pow_zero,Nat.mod_one];rfl,(p:Int),p+1,rfl,rfl,b0.o,b5.o,a3.o.1,a3.o.2,b1.o,a6.o⟩
   case round =>
    obtain⟨z,j,rfl,hz,hj,rfl,_,p',he,c8,hq,a0,a4,a5,a1,a2⟩:=hrel
    injection he with _ he
    subst he;have b6:p'=p+1:=by omega
    subst b6;have hd:N/2^(4*p+j)%2^(4-j)<16:=by
     have h1:=Nat.mod_lt (N/2^(4*p+j)) (Nat.two_pow_pos (4-j));have h2:2^(4-j)<=2^4:=Nat.pow_le_pow_right (by decide) (by omega);omega
    by_cases h0:j=0
    ·subst h0;have b4:z = -1:=by omega
     subst b4;have e16:N/2^(4*p+0)%2^(4-0)=N/16^p%16:=by
      rw[Nat.add_zero,Nat.pow_mul]
     rw[e16] at hd ⊢;obtain⟨d,a7⟩:=yx (N/16^p%16);rw[<- a7] at hd ⊢;have d6:=vv (Bld.WriteByte w1.heap.size w1.heap.size _ ((hx d).toNat:Int) wr a0 (by rw[Lib.byteCells_length,List.length_take,hexL_len];have:=b3.o.2;omega) a5);have d7:(d:Int)<=15:=by omega
     have a6:=vv a2;have b1:=vv a1;have d8:=vv a7;have b0:=vv hq;have a3:=vv (And.intro a4 a5);clear a0 a2 a1 a7 hz hj c8 hd hq a4 a5;go_wp2_with fail
     rw[dig];refine d6.o.mono ?_;rintro e w3 ⟨rfl,c9,hB⟩;have d9:=vv c9;have a8:=vv (a6.o.trans (hB.mono (Nat.le_of_lt a3.o.1)));have a9:=vv (Blk.under b1.o hB a3.o.1);have b7:=vv hB.size;clear c9 hB;go_wp2;go_round
     case rel =>
      refine⟨(p:Int)-1,p,by go_num,by omega,Nat.le_of_succ_le b0.o,Or.inr ?_,a3.o.1,Nat.le_trans a3.o.2 b7.o,a9.o,a8.o⟩;have h:=d9.o;have e:=q5J N k p b0.o;rw[<- d8.o] at e;rw[e,Lib.byteCells_append];exact h
     case measure=>simp [intOf]
    ·obtain⟨i,rfl⟩:∃i,j=i+1:=⟨j-1,by omega⟩;have e0:z=(i:Int):=by omega
     subst e0;have e6:(i:Int)<=3:=by omega
     have b8:N/2^(4*p+i)%2^(4-i)=2*(N/2^(4*p+(i+1))%2^(4-(i+1)))+N/2^(4*p+i)%2:=by
      have e:4-i=(4-(i+1))+1:=by omega
      rw[e,qa8,Nat.div_div_eq_div_mul,<- Nat.pow_succ]
      rfl
     obtain⟨d,a7⟩:=yx (N/2^(4*p+(i+1))%2^(4-(i+1)));rw[<- a7] at hd b8 ⊢;have d7:(d:Int)<=15:=by omega
     have HT:=d1.o (4*p+i) wr a2 (by have:=b3.o.2;omega);obtain⟨t,ht⟩:=yx ((N/2^(4*p+i)%2==1));rw[<- ht] at HT;have d0:(((4*p+i:Nat):Int))=4*(p:Int)+(i:Int):=by omega
     rw[d0] at HT;have HT:=vv HT;have HE:=vv (And.intro b8 (And.intro ht a7));have b5:=vv a0;have a6:=vv a2;have b1:=vv a1;have c0:=a1.cell 0;have cl:=a1.lt;simp only[List.getElem?_cons_zero] at c0;have b0:=vv hq;have a3:=vv (And.intro a4 a5);clear a4 a5 a0 a2 a1 a7 b8 ht d0 hd hz hj c8 hq;go_wp2_with fail
     refine HT.o.mono ?_;rintro e w3 ⟨rfl,hB⟩;have a8:=vn a6 hB;have a9:=vv (b1.o.below hB);have b7:=vv hB.size;have b9:Hid (Bld.Is w1.heap.size w1.heap.size (Lib.byteCells ((hexL N k).take (k-(p+1)))) w3):=vv (q9S b5.o hB);clear hB c0 cl;cases t
     all_goals
      go_wp2;go_round
      case rel =>
       have hE:=HE.o;refine⟨(i:Int)-1,i,by go_num,by omega,by omega,?_,(p:Int),p+1,rfl,rfl,b0.o,b9.o,a3.o.1,Nat.le_trans a3.o.2 b7.o,a9.o,a8.o⟩;have h2:=hE.2.1;have h3:N/2^(4*p+i)%2<2:=Nat.mod_lt _ (by decide);rw[hE.1];obtain⟨y,hy⟩:=yx (N/2^(4*p+i)%2);rw[<- hy] at h2 h3 ⊢;rcases Nat.lt_or_ge y 1 with h|h
       ·obtain rfl:y=0:=by omega
        first|(congr 1;omega)|simp at h2
       ·obtain rfl:y=1:=by omega
        first|(congr 1;omega)|simp at h2
      case measure=>simp [intOf]
end Go.Proofs.YtppgcnhlpnmieaaGreatDoor.Hx
namespace Go.Proofs.YtppgcnhlpnmieaaGreatDoor.B
open Go Go.RowKit Scn Hx
def fgN(b N i:Nat):Nat:=(hx (N/b^i%b)).toNat
def q5Y(b N t:Nat):List Nat:=(List.range t).map (fgN b N)
theorem q3R(b N t:Nat):q5Y b N (t+1)=q5Y b N t++[fgN b N t]:=by
 unfold q5Y;rw[List.range_succ,List.map_append]
 rfl
theorem q9A(b N t i:Nat)(h:i<t):nth (q5Y b N t) i=fgN b N i:=by
 unfold nth q5Y;rw[List.getD_eq_getElem?_getD,List.getElem?_map,List.getElem?_range h]
 rfl
def q3e(b N:Nat):Nat->List Nat
 | 0=>[]
 | k+1=>fgN b N k::q3e b N k
theorem q20(b N:Nat):∀k,(q3e b N k).length=k
 | 0=>rfl
 | k+1=>by rw[q3e,List.length_cons,q20 b N k]
theorem q7a(b N:Nat):∀(k i:Nat),i<k->nth (q3e b N k) i=fgN b N (k-1-i)
 | 0,i,h=>absurd h (by omega)
 | k+1,0,_=>rfl
 | k+1,i+1,h=>by
  show nth (q3e b N k) i=_;rw[q7a b N k i (by omega)];congr 1
  omega
structure HasLen(b N k:Nat):Prop where
 lt:N<b^k
 ge:0<k->b^(k-1)<=N
theorem HasLen.uniq{b N k l:Nat}(hb:2<=b)(h:HasLen b N k)(h':HasLen b N l):k=l:=by
 rcases Nat.lt_trichotomy k l with e|e|e
 ·have h1:=h'.ge (by omega);have h2:b^k<=b^(l-1):=Nat.pow_le_pow_right (by omega) (by omega);have:=h.lt;omega
 ·exact e
 ·have h1:=h.ge (by omega);have h2:b^l<=b^(k-1):=Nat.pow_le_pow_right (by omega) (by omega);have:=h'.lt;omega
theorem qbp(b N i:Nat)(hb:0<b)(h:N<b^i):fgN b N i=48:=by
 unfold fgN;rw[Nat.div_eq_of_lt h,Nat.zero_mod]
 rfl
theorem qdi(b N i:Nat):fgN b N i<256:=(hx _).toNat_lt
theorem q9z(b N k K:Nat)(hb:2<=b)(h:N<b^k)(i:Nat)(hi:k<=i):fgN b N i=48:=
 qbp b N i (by omega) (Nat.lt_of_lt_of_le h (Nat.pow_le_pow_right (by omega) hi))
structure BlkOk(b p:Nat):Prop where
 two:2<=b
 le:b<=16
 one:1<=p
 few:p<=9
 lo:∀q,q<p->b^q<=4294967295/b
 hi:4294967295/b<b^p
 top:b^p<4294967296
theorem qcJ:BlkOk 10 9:=⟨by decide,by decide,by decide,by decide,by decide,by decide,by decide⟩
theorem qdm:BlkOk 16 7:=⟨by decide,by decide,by decide,by decide,by decide,by decide,by decide⟩
theorem qco{w:World}{g m c:Nat}{t:TypeId}{U xs:List Nat}(hO:Own w g t U)(hR:Rd w (some ⟨g,0,none⟩) m c xs)(hm:m<=U.length){i:Nat}(hi:i<m):nth U i=nth xs i:=by
 obtain⟨b,off,e,_,hc⟩:=hR.cell (by omega);cases e
 have h1:=hc i hi;have h2:=hO.cell (i:=i) (by omega);rw[Nat.zero_add,h2] at h1
 injection h1 with h1
 injection h1 with _ h1
 omega
theorem q9L{U:List Nat}{i:Nat}(h:U.length<=i):nth U i=0:=by
 unfold nth;rw[List.getD_eq_getElem?_getD,List.getElem?_eq_none h]
 rfl
theorem q8c{w w':World}{G m c:Nat}{xs:List Nat}(h:Rd w (some ⟨G,0,none⟩) m c xs)(hb:w'.heap[G]?=w.heap[G]?):Rd w' (some ⟨G,0,none⟩) m c xs:=
 ⟨h.len,h.le,h.sm,h.lim,fun hn=>by
  obtain⟨b,off,e,hlt,hc⟩:=h.cell hn;cases e
  refine⟨G,0,rfl,?_,fun j hj=>?_⟩
  ·rw[Array.getElem?_eq_getElem hlt] at hb;exact(Array.getElem?_eq_some_iff.1 hb).1
  ·have:=hc j hj;unfold World.cell? at this ⊢;rw[hb];exact this⟩
theorem q6J{w w':World}{G:Nat}{t:TypeId}{U:List Nat}(h:Own w G t U)(hb:w'.heap[G]?=w.heap[G]?):Own w' G t U:=⟨h.1.of_block hb,h.2⟩
theorem q6V{b N k t:Nat}(hb:2<=b)(h:HasLen b N k)(ht:0<t->b^(t-1)<=N):t<=k:=by
 rcases Nat.lt_or_ge k t with e|e
 ·have h1:=ht (by omega);have h2:b^k<=b^(t-1):=Nat.pow_le_pow_right (by omega) (by omega);have:=h.lt;omega
 ·exact e
theorem q2o{M m:Nat}(h:(toL M).length=m)(hm:0<m):0<M:=by
 rcases Nat.eq_zero_or_pos M with e|e
 ·subst e;have:(toL 0).length=0:=rfl;omega
 ·exact e
theorem q8k{w:World}{g:Nat}{t:TypeId}{U:List Nat}(h:q3s w g t U):w.heap[g]?=some (.cells (u8s U).toArray t (0,0)):=by
 obtain⟨c,hb,hn,hc⟩:=h;rw[hb];congr 2
 apply Array.ext_getElem?
 intro i;by_cases hi:i<U.length
 ·rw[hc i hi,List.getElem?_toArray,q4G U hi]
 ·rw[Array.getElem?_eq_none (by omega),List.getElem?_toArray,List.getElem?_eq_none (by simp [u8s];omega)]
theorem q9H{w:World}{g base n:Nat}{t:TypeId}{U:List Nat}(h:q3s w g t U)(hn:U.length=n)(hg:base<=g)(hm:n<=maxLen):w.ownsRow base t 1 (.slice (some ⟨g,0,none⟩) n n) n (u8s U):=
 ⟨by simp [u8s,hn],.inr ⟨g,n,(u8s U).toArray,rfl,hg,q8k h,lr,hm,by simp [u8s,hn],by rw[List.toList_toArray];exact List.take_of_length_le (by simp [u8s,hn])⟩⟩
theorem q27{w:World}{base:Nat}{e:TypeId}{g n cap:Nat}{U:List Nat}(h:w.ownsRow base e 1 (.slice (some ⟨g,0,none⟩) n cap) n (u8s U)){i:Nat}(hi:i<n):
  w.cell? ⟨g,i,none⟩=some (.int .u8 ((nth U i:Nat):Int))/\base<=g/\g<w.heap.size:=by
 have a0:U.length=n:=by have:=h.1;simpa [u8s] using this
 rcases h.2 with ⟨h,_⟩|⟨g',cap',cur,hv,hb,hg,hc,hm,hs,ht⟩
 ·cases h
 ·cases hv
  refine⟨?_,hb,(Array.getElem?_eq_some_iff.1 hg).1⟩;have e1:=q4G U (i:=i) (by omega);rw[<- ht,Nat.mul_one,List.getElem?_take,if_pos hi] at e1;simp only[World.cell?,hg];rw[<- e1];simp
theorem q1E{w:World}{base:Nat}{e:TypeId}{v:Value}{n:Nat}{xs:List Value}(h:w.ownsRow base e 1 v n xs)(hn:0<n):∃g cap,v=.slice (some ⟨g,0,none⟩) n cap/\base<=g:=by
 rcases h.2 with ⟨_,h0⟩|⟨g,cap,cur,hv,hb,_⟩
 ·omega
 ·exact⟨g,cap,hv,hb⟩
theorem qdW(n:Nat)(h:n<=1099511627776)(w:World):(Instr.makeSlice 132 (.int .i64 (n:Int)) (.int .i64 (n:Int))).run Tryz.prog w=.ok (.slice (some ⟨w.heap.size,0,none⟩) n n) (w.alloc (.cells (madeCells #[.int .u8 0] n) 5)):=
 run_make_row' (P:=Tryz.prog) 132 5 (.int .u8 0) 1 Tryz.underlying132 q8A rfl .i64 .i64 n (by omega) (by omega) w
theorem qaX{b N K:Nat}{V:List Nat}(hl:V.length=K)(h:∀i,i<K->nth V i=fgN b N (K-1-i)):V=q3e b N K:=by
 apply List.ext_getElem?
 intro i;by_cases hi:i<K
 ·have e1:=h i hi;rw[<- q7a b N K i hi] at e1;unfold nth at e1;rw[List.getD_eq_getElem?_getD,List.getD_eq_getElem?_getD,List.getElem?_eq_getElem (by omega),List.getElem?_eq_getElem (by rw[q20];omega)] at e1;rw[List.getElem?_eq_getElem (by omega),List.getElem?_eq_getElem (by rw[q20];omega)];exact congrArg some e1
 ·rw[List.getElem?_eq_none (by omega),List.getElem?_eq_none (by rw[q20];omega)]
def qd8(v:Value):Nat:=match v with|.slice _ n _=>n|_=>0
theorem q31{w:World}{base:Nat}{e:TypeId}{v:Value}{n:Nat}{xs:List Value}(h:w.ownsRow base e 1 v n xs):qd8 v=n:=by
 rcases h.2 with ⟨rfl,h0⟩|⟨g,cap,cur,rfl,_⟩
 ·exact h0.symm
 ·rfl
theorem q1t{w:World}{base:Nat}{e:TypeId}{v:Value}{n:Nat}{xs:List Value}(h:w.ownsRow base e 1 v n xs):∃A cap,v=.slice A n cap:=by
 rcases h.2 with ⟨h2,rfl⟩|⟨g,cap,cur,hv,_⟩
 ·exact⟨none,0,h2⟩
 ·exact⟨_,_,hv⟩
theorem qb9{w:World}{base:Nat}{e:TypeId}{v:Value}{n:Nat}{xs:List Value}(h:w.ownsRow base e 1 v n xs):∀W:World,(Builtin.len_ #[132] 3 #[v]).run Tryz.prog W=.ok (.int .i64 (n:Int)) W:=by
 obtain⟨A,c,rfl⟩:=q1t h;intro W;simp [Builtin.len_,go_sem,Tryz.underlying132]
theorem q6e{w:World}{base:Nat}{e:TypeId}{v:Value}{n:Nat}{xs:List Value}(h:w.ownsRow base e 1 v n xs):∀b,v.ownBlock=some b->base<=b/\b<w.heap.size:=by
 intro b hb;rcases h.2 with ⟨rfl,h0⟩|⟨g,cap,cur,rfl,hg,hc,_⟩
 ·simp [Value.ownBlock] at hb
 ·simp [Value.ownBlock] at hb
  subst hb;exact⟨hg,(Array.getElem?_eq_some_iff.1 hc).1⟩
theorem qdk(d:Nat)(h:d<16)(h':d<(⟨#[48,49,50,51,52,53,54,55,56,57,97,98,99,100,101,102,103,104,105,106,107,108,109,110,111,112,113,114,115,116,117,118,119,120,121,122]⟩:ByteArray).size):
  (⟨#[48,49,50,51,52,53,54,55,56,57,97,98,99,100,101,102,103,104,105,106,107,108,109,110,111,112,113,114,115,116,117,118,119,120,121,122]⟩:ByteArray)[d]=hx d:=by
 match d,h with
 | 0,_=>rfl
 | 1,_=>rfl
 | 2,_=>rfl
 | 3,_=>rfl
 | 4,_=>rfl
 | 5,_=>rfl
 | 6,_=>rfl
 | 7,_=>rfl
 | 8,_=>rfl
 | 9,_=>rfl
 | 10,_=>rfl
 | 11,_=>rfl
 | 12,_=>rfl
 | 13,_=>rfl
 | 14,_=>rfl
 | 15,_=>rfl
 | d+16,h=>exact absurd h (by omega)
theorem q54{b p N t s X:Nat}(hb:2<=b)(hX:X=b^p)(hs:s<p):(N/b^t)%X/b^s%b=N/b^(t+s)%b:=by
 obtain⟨r,rfl⟩:∃r,p=s+1+r:=⟨p-s-1,by omega⟩;rw[hX,Nat.pow_add b t s,<- Nat.div_div_eq_div_mul];generalize N/b^t=M;rw[Nat.pow_add,Nat.pow_succ,Nat.mul_assoc,<- Nat.mod_mul_right_div_self,<- Nat.mod_mul_right_div_self M];have e:M%(b^s*(b*b^r))%(b^s*b)=M%(b^s*b):=by
  rw[<- Nat.mul_assoc];exact Nat.mod_mul_right_mod M (b^s*b) (b^r)
 rw[e]
theorem q79{b p N t s X:Nat}(hb:2<=b)(hX:X=b^p)(hs:s<p)(h:0<N/b^t/X\/0<(N/b^t)%X/b^s):b^(t+s)<=N:=by
 have hp:0<b^s:=Nat.pow_pos (by omega);have a0:0<b^t:=Nat.pow_pos (by omega);have key:b^s<=N/b^t:=by
  rcases h with h|h
  ·have h1:X<=N/b^t:=by
    rcases Nat.lt_or_ge (N/b^t) X with k|k
    ·rw[Nat.div_eq_of_lt k] at h;omega
    ·exact k
   have h2:b^s<=X:=by rw[hX];exact Nat.pow_le_pow_right (by omega) (by omega)
   omega
  ·have h1:b^s<=(N/b^t)%X:=by
    rcases Nat.lt_or_ge ((N/b^t)%X) (b^s) with k|k
    ·rw[Nat.div_eq_of_lt k] at h;omega
    ·exact k
   exact Nat.le_trans h1 (Nat.mod_le _ _)
 rw[Nat.pow_add,Nat.mul_comm];exact(Nat.le_div_iff_mul_le a0).1 key
theorem q8Y{b p N t s X:Nat}(hb:2<=b)(hX:X=b^p)(hs:s<=p)(h:s=p\/(N/b^t/X=0/\(N/b^t)%X/b^s=0)):N/b^(t+s)=N/b^t/X:=by
 rw[Nat.pow_add,<- Nat.div_div_eq_div_mul];rcases h with h|⟨h1,h2⟩
 ·rw[h,hX]
 ·generalize N/b^t=M at *
  have a0:0<X:=by rw[hX];exact Nat.pow_pos (by omega)
  have h3:M<X:=by
   rcases Nat.lt_or_ge M X with k|k
   ·exact k
   ·have:=Nat.div_pos k a0;omega
  rw[Nat.mod_eq_of_lt h3] at h2;rw[h1,h2]
def qd3(b N K:Nat)(w:World)(e:Ending)(w':World):Prop:=
 ∃v,e=.returned v/\w'.ownsRow w.heap.size 5 1 v K (u8s (q3e b N K))/\Below w.heap.size w w'
theorem q4K(A:Option Addr)(n c N b p k:Nat)(least:Int)(w:World)(hB:BlkOk b p)(ha:Rd w A n c (toL N))(hn:n<=40)(hk:HasLen b N k)(hk1:k<=2000)(hl:least<=70000):
  Calls Tryz.prog 272 #[.slice A n c,.int .i64 (b:Int),.int .i64 least] w (qd3 b N (max least.toNat k) w):=by
 obtain⟨i0,hi,d5,d6,d7⟩:=info_parts q8A;have g5:=vv (q0F A n c _ w ha);have HB:=vv hB;have HK:=vv hk;have o1:(n:Int)<=40:=by omega
 have o2:(b:Int)<=16:=by have:=hB.le;omega
 have o3:(2:Int)<=(b:Int):=by have:=hB.two;omega
 have d8:(p:Int)<=9:=by have:=hB.few;omega
 obtain⟨Q,hQ⟩:=yx (4294967295/b);have d9:(4294967295:Int)/(b:Int)=(Q:Int):=by rw[hQ,Int.natCast_ediv];rfl
 have g6:(Q:Int)<=4294967295:=by
  have:=Nat.div_le_self 4294967295 b;omega
 have HQ:=vv hQ;have o4:=vv d9;have l3:Hid (least<=70000):=vv hl;have HN:=vv hn;have g7:Hid (n=(toL N).length):=vv ha.len.symm;have b4:=vv hk1;clear hB ha hk hn hk1 hl hQ;go_enter Tryz.func272,Tryz.ntmps272
 go_wp2_with fail
 go_loopw [10,11] (fun x y wr=>∃q X:Nat,1<=q/\q<=p/\X=b^q/\x=.int .u32 (X:Int)/\y=.int .i64 (q:Int)/\wr=w) (fun _ y _=>(9-intOf y).toNat)
 case atStart=>exact⟨1,b,lr,HB.o.one,(Nat.pow_one b).symm,rfl,rfl,rfl⟩
 case round =>
  obtain⟨q,X,h1,l4,hX,rfl,rfl,e0⟩:=hrel;replace e0:=e0.symm;subst e0;have HX:=vv hX;have H1:=vv h1;clear hX h1;rcases Nat.lt_or_ge q p with b0|b5
  ·have g8:(X:Int)<=(Q:Int):=by have:=HB.o.lo q b0;rw[<- HX.o,<- HQ.o] at this;omega
   obtain⟨Y,hY⟩:=yx (X*b);have o5:(Y:Int)<=4294967295:=by
    have h2:X*b<=4294967295:=(Nat.le_div_iff_mul_le (by have:=HB.o.two;omega)).1 (by have:=HB.o.lo q b0;rw[<- HX.o] at this;exact this);omega
   have l5:(X:Int)*(b:Int)=(Y:Int):=by rw[hY];simp
   have HY:Hid (Y=b^(q+1)):=vv (by rw[hY,HX.o,Nat.pow_succ]);have o6:(q:Int)<=9:=by omega
   clear hY;go_wp2;go_roundw
   case measure=>simp [intOf];omega
   case rel=>exact⟨q+1,Y,by omega,b0,HY.o,by first|rfl|go_num,by first|rfl|go_num,by first|trivial|rfl⟩
  ·obtain rfl:q=p:=by omega
   have g8:¬(X:Int)<=(Q:Int):=by have:=HB.o.hi;rw[<- HX.o,<- HQ.o] at this;omega
   have e6:(X:Int)<4294967296:=by have:=HB.o.top;rw[<- HX.o] at this;omega
   clear b5 l4 e6;go_wp2_with fail
   refine g5.o.mono ?_;rintro e w1 ⟨rfl,hO,g9⟩;obtain⟨G,hG⟩:=yx (w.heap.size);have HG:=vv hG;rw[<- hG] at hO ⊢;have l6:=vv hO;have l7:=vv g9;have o7:Hid (G<w1.heap.size):=vv hO.lt;have l8:Hid (Rd w1 (some ⟨G,0,none⟩) n n (toL N)):=vv (hO.rd (by rw[g7.o]) lr (by have:=HN.o;omega));clear hG hO g9 g5 g8;go_wp2_with fail
   go_loopw [0,12] (fun x y wr=>∃(t m:Nat) (U:List Nat),x=.slice (some ⟨G,0,none⟩) m n/\m<=n/\U.length=n/\Own wr G 34 U/\Rd wr (some ⟨G,0,none⟩) m n (toL (N/b^t))/\(0<t->b^(t-1)<=N)/\t<=k /\
    wr.ownsRow (G+1) 5 1 y t (u8s (q5Y b N t))/\Below w.heap.size w wr) (fun _ y _=>3000-qd8 y)
   case atStart=>exact⟨0,n,toL N,rfl,lr,g7.o.symm,l6.o,by rw[Nat.pow_zero,Nat.div_one];exact l8.o,fun h=>absurd h (by omega),Nat.zero_le _,World.ownsRow_nil _ _ _ _,l7.o⟩
   case round =>
    obtain⟨t,m,U,rfl,i1,hU,hO,hR,b5,i2,a1,a3⟩:=hrel;have HU:=vv hU;have HR:=vv hR;have c3:=vv hO;have c7:=vv b5;have c4:=vv i2;have b1:=vv a1;have i3:=vv (q31 a1);have c8:=vv a3;have b6:=vv i1;have o8:(m:Int)<=40:=by omega
    have c9:=hR.len;obtain⟨M,hM⟩:=yx (N/b^t);have HM:=vv hM;rw[<- hM] at HR c9;clear hU hR hO b5 i2 a1 a3 hM i1;rcases Nat.eq_zero_or_pos m with d0|d0
    ·subst d0;have i4:M=0:=by
      have h0:toL M=[]:=List.length_eq_zero_iff.1 c9;exact q2z.1 h0
     have e7:N<b^t:=by
      rw[HM.o] at i4;rcases Nat.lt_or_ge N (b^t) with e|e
      ·exact e
      ·have:=Nat.div_pos e (Nat.pow_pos (by have:=HB.o.two;omega));omega
     obtain rfl:t=k:=HasLen.uniq HB.o.two ⟨e7,c7.o⟩ HK.o;have l9:=vv e7;have i5:=c3.o.lt;clear i4 e7 c9 d9 g6 HR c3 b6 c7 c4;go_wp2_with fail
     go_loopw [12] (fun y wx=>∃s:Nat,t<=s/\((s:Int)<=least\/s=t)/\wx.ownsRow (G+1) 5 1 y s (u8s (q5Y b N s))/\G<wx.heap.size/\Below w.heap.size w wx) (fun y _=>80000-qd8 y)
     case atStart=>exact⟨t,lr,.inr rfl,b1.o,i5,c8.o⟩
     case round =>
      obtain⟨s,i6,i7,a1,i8,a3⟩:=hrel;have e8:=vv i8;have o9:s<=70000:=by have:=l3.o;have:=b4.o;omega
      have a8:=vv a1;have a7:=vv a3;have e9:=vv i6;have m0:=vv i7;have a4:=q6e a1;have m1:=vv (q31 a1);have p0:=qb9 a1;have m2:(s:Int)<=70000:=by omega
      clear a1 a3 i6 i7 i8 i5 b1 c8;by_cases hc:(s:Int)<least
      ·have i9:fgN b N s=48:=q9z b N t s HB.o.two l9.o s e9.o;have m3:=vv i9;have m4:=a7.o.size;have m5:=vv hc;clear i9;go_wp2_with (at_builtin;refine wpList_append_own _ rfl _ _ 132 rfl (G+1) 5 i0 (.int .u8 0) 1 1 Tryz.underlying132 hi d5 d6 d7 rfl (by decide) _ s (u8s (q5Y b N s)) rfl (a8.o.alloc _) ⟨wr.heap.size,0,none⟩ 1 1 [.int .u8 48] rfl rfl (cell_one_new _ _ _) (by simp [Value.oneCell']) (by unfold maxLen;omega) (by omega) (by have:=e8.o;simp;omega) ?_)
       intro v' w5 a2 a0 _;replace a2:w5.ownsRow (G+1) 5 1 v' (s+1) (u8s (q5Y b N (s+1))):=by
        rw[q3R,q3i,m3.o];exact a2
       have a5:=vv a2;have f0:Hid (G<w5.heap.size):=vv (Nat.lt_of_lt_of_le (by have:=e8.o;simp;omega) a0.size);have c5:=vv ((a7.o.alloc m4 (.cells #[.int .u8 48] 5)).grown a0 (by simp;omega) (fun e he=>by have:=(a4 e he).1;have:=HG.o;omega));clear a2 a0 a8 a7 a4;go_wp2;go_roundw
       case measure =>
        have e1:=q31 a5.o;have e2:=m1.o;omega
       case rel=>exact⟨s+1,by have:=e9.o;omega,.inl (by have:=m5.o;omega),a5.o,f0.o,c5.o⟩
      ·have hK:max least.toNat t=s:=by have:=e9.o;have:=m0.o;omega
       have m6:=vv hK;have p1:=qdW s (by omega);clear hK;go_wp2_with fail
       obtain⟨H,hH⟩:=yx (wr.heap.size);have HH:=vv hH;rw[<- hH] at a4 ⊢;have j0:G<H:=by rw[hH];exact e8.o
       have j1:=vv j0;have f1:=vv a4;clear hH a4 j0;go_loopw [19] (fun i wx=>∃(j:Nat) (V:List Nat),i=.int .i64 (j:Int)/\j<=s/\V.length=s/\q3s wx H 5 V/\(∀p,p<j->nth V p=fgN b N (s-1-p))/\wx.ownsRow (G+1) 5 1 u12 s (u8s (q5Y b N s))/\Below w.heap.size w wx) (fun i _=>s-(intOf i).toNat)
       case atStart =>
        refine⟨0,List.replicate s 0,rfl,Nat.zero_le _,List.length_replicate,by rw[HH.o];exact q3s.made _ _ _,fun p hp=>absurd hp (by omega),a8.o.alloc _,a7.o.alloc a7.o.size _⟩
       case round =>
        obtain⟨j,V,rfl,hj,hV,hO,hd,a1,a3⟩:=hrel;have HV:=vv hV;have j2:=vv hO;have j3:=vv hd;have m7:=vv a1;have j4:=vv a3;have p2:(j:Int)<=70000:=by omega
        rcases Nat.lt_or_ge j s with d1|d1
        ·obtain⟨g1,c1,hu,p3⟩:=q1E a1 (by omega);subst hu;obtain⟨r,hr⟩:=yx (s-1-j);obtain⟨m8,p4,p5⟩:=q27 a1 (i:=r) (by omega);rw[q9A b N s _ (by omega)] at m8;have p6:=hO.cell (i:=j) (by omega);have p7:=hO.frozen j;have f2:=hO.lt;have p8:(j:Int)<(s:Int):=by omega
         have d2:(0:Int)<=(j:Int):=by omega
         have p9:(s:Int)-1-(j:Int)=(r:Int):=by omega
         have q0:(r:Int)<(s:Int):=by omega
         have m9:=vv hr;have f3:=vv d1;clear hr hO hd a1 a3 hj d1 hV a8 a7;go_wp2;go_roundw
         case measure=>simp [intOf];omega
         case rel =>
          refine⟨j+1,V.set j (fgN b N r),by first|rfl|go_num,by have:=f3.o;omega,by rw[List.length_set];exact HV.o,j2.o.set (by rw[HV.o];exact f3.o) rfl,fun p hp=>?_,m7.o.kept (Go.Proofs.YtppgcnhlpnmieaaGreatDoor.only_setCell (World.grownBy.refl _ _) (.inl rfl) _) (.inr fun e=>?_),j4.o.setCell (p:=⟨H,j,none⟩) (by show _<=H;have:=j1.o;have:=HG.o;omega) _⟩
          ·by_cases hpj:p=j
           ·subst hpj;rw[q0H _ p _ p (by rw[HV.o];exact f3.o),if_pos rfl,m9.o]
           ·rw[q0e _ _ hpj];exact j3.o p (by omega)
          ·have h1:=(f1.o g1 rfl).2;have h2:some g1=some H:=e
           injection h2 with h2
           omega
        ·obtain rfl:j=s:=by omega
         have j5:V=q3e b N j:=qaX HV.o j3.o;have n0:=vv j5;have q1:¬(j:Int)<(j:Int):=by omega
         clear j5 hO hd a1 a3 hj d1 a8 a7;go_wp2;go_ret
         refine⟨_,rfl,?_,j4.o⟩;rw[m6.o,<- n0.o];exact q9H j2.o HV.o (by have:=j1.o;have:=HG.o;omega) (by unfold maxLen;omega)
    ·have n1:=vv d0;have q2:(0:Int)<(m:Int):=by omega
     clear d0 c9 d9 g6;go_wp2_with fail
     go_loopw [13,14] (fun r i wr'=>∃(j:Nat) (z:Int) (R:Nat) (V:List Nat),i=.int .i64 z/\z+1=j/\j<=m/\r=.int .u64 (R:Int)/\R<X/\R=(M/4294967296^j)%X/\V.length=n/\Own wr' G 34 V /\
      (∀i,i<j->nth V i=nth (toL M) i)/\(∀i,j<=i->nth (V.take m) i=(M/X)/4294967296^i%4294967296)/\wr'.ownsRow (G+1) 5 1 u12 t (u8s (q5Y b N t))/\Below w.heap.size w wr') (fun _ i _=>(intOf i+1).toNat)
     case atStart =>
      have b0:=HR.o.lt;rw[q00] at b0;have n2:0<X:=by rw[HX.o];exact Nat.pow_pos (by have:=HB.o.two;omega)
      refine⟨m,_,0,U,rfl,by omega,lr,rfl,n2,by rw[Nat.div_eq_of_lt b0];simp,HU.o,c3.o,fun i hi=>qco c3.o HR.o (by rw[HU.o];exact b6.o) hi,fun i hi=>?_,b1.o,c8.o⟩;rw[q9L (by rw[List.length_take];omega),Nat.div_div_eq_div_mul,Nat.mul_comm,<- Nat.div_div_eq_div_mul,Nat.div_eq_of_lt (Nat.lt_of_lt_of_le b0 (Nat.pow_le_pow_right (by decide) hi))];simp
     case round =>
      obtain⟨j,z,R,V,rfl,hz,hj,rfl,f4,j6,j7,hO,j8,j9,a1,a3⟩:=hrel;have k0:=vv j6;have b3:=vv j7;have d3:=vv hO;have k1:=vv j8;have f5:=vv j9;have f6:=vv a1;have f7:=vv a3;clear j6 j7 j8 j9 a1 a3 b1 c8 c3;rcases Nat.eq_zero_or_pos j with d2|d2
      ·subst d2;obtain rfl:z = -1:=by omega
       clear hz hj hO;have k2:=(d3.o.rd (n:=n) (c:=n) b3.o.symm lr (by have:=HN.o;omega)).take b6.o;have hv:val (V.take m)=M/X:=by
        have b0:=HR.o.lt;rw[q00] at b0;have:=q15 (U:=V.take m) (Q:=M/X) fun i _=>f5.o i (Nat.zero_le _)
        rw[this,List.length_take,b3.o,Nat.min_eq_left b6.o];exact Nat.mod_eq_of_lt (Nat.lt_of_le_of_lt (Nat.div_le_self _ _) b0)
       have k3:=vv (q1a _ _ _ _ _ k2);have k4:=vv hv;have k5:R=M%X:=by have:=k0.o;rwa [Nat.pow_zero,Nat.div_one] at this
       have k6:=vv k5;have n3:=vv f4;clear k2 hv k5 f4;go_wp2_with fail
       refine k3.o.mono ?_;rintro e w2 ⟨m',rfl,rfl,b2⟩;rw[k4.o] at b2;have k7:=vv b2;have n4:(m':Int)<=40:=by have:=b2.le;omega
       have f8:(X:Int)<=4294967295:=by have:=HB.o.top;rw[<- HX.o] at this;omega
       have q3:(R:Int)<=4294967295:=by have:=n3.o;omega
       have k8:Hid (0<m'↔0<M/X):=vv (by
        have:=b2.len
        constructor
        ·intro h;rcases Nat.eq_zero_or_pos (M/X) with e|e
         ·rw[e] at this;have:(toL 0).length=0:=rfl;omega
         ·exact e
        ·intro h;rcases Nat.eq_zero_or_pos m' with e|e
         ·have h0:toL (M/X)=[]:=List.length_eq_zero_iff.1 (by omega);have:=q2z.1 h0;omega
         ·exact e)
       clear b2 k3 k4 f8;go_wp2_with fail
       go_loopw [12,16,17] (fun y r i wx=>∃s R':Nat,i=.int .i64 (s:Int)/\s<=q/\r=.int .u32 (R':Int)/\R'=M%X/b^s/\wx.ownsRow (G+1) 5 1 y (t+s) (u8s (q5Y b N (t+s)))/\(0<t+s->b^(t+s-1)<=N) /\
        Own wx G 34 V/\Rd wx (some ⟨G,0,none⟩) m' n (toL (M/X))/\Below w.heap.size w wx) (fun _ _ i _=>(20-intOf i).toNat)
       case atStart=>exact⟨0,R,rfl,Nat.zero_le _,rfl,by rw[Nat.pow_zero,Nat.div_one];exact k6.o,f6.o,c7.o,d3.o,k7.o,f7.o⟩
       case round =>
        obtain⟨s,R',rfl,hs,rfl,b2,a1,b5,hO,k9,a3⟩:=hrel;have b7:=vv b2;have a8:=vv a1;have c2:=vv b5;have a9:=vv hO;have a6:=vv k9;have a7:=vv a3;have d4:=vv hs;have n5:(R':Int)<=4294967295:=by
         have h1:R'<=R:=by rw[b2,k6.o];exact Nat.div_le_self _ _
         omega
        have m2:(s:Int)<=9:=by omega
        have a4:=(q6e a1);clear b2 a1 b5 hO k9 a3 f6 c7 d3 k7 f7;have c6:Hid (((s:Int)<(q:Int)/\(0:Int)<(m':Int))\/((s:Int)<(q:Int)/\¬(0:Int)<(m':Int)/\(0:Int)<(R':Int))\/((s:Int)<(q:Int)/\¬(0:Int)<(m':Int)/\¬(0:Int)<(R':Int))\/¬(s:Int)<(q:Int)):=vv (by omega);obtain⟨D,hD⟩:=yx (R'%b);have q4:(R':Int)%(b:Int)=(D:Int):=by rw[hD,Int.natCast_emod]
        obtain⟨E,hE⟩:=yx (R'/b);have q5:(R':Int)/(b:Int)=(E:Int):=by rw[hE,Int.natCast_ediv]
        have n6:(E:Int)<=4294967295:=by have:=Nat.div_le_self R' b;omega
        have l0:=vv hE;clear hE;have b8:D<16:=by
         have h1:=Nat.mod_lt R' (y:=b) (by have:=HB.o.two;omega);have h2:=HB.o.le;omega
        have q6:(D:Int)<36:=by omega
        have HD:=vv hD;have n7:=vv b8;have q7:=fun h'=>qdk D b8 h'
        clear hD b8;rcases c6.o with ⟨h1,h2⟩|⟨h1,h2,h3⟩|⟨h1,h2,h3⟩|h1
        ·clear c6;have f9:=a7.o.size;have g0:=vv (q79 (N:=N) (t:=t) (s:=s) (p:=q) (X:=X) HB.o.two HX.o (by omega) (.inl (by rw[<- HM.o];exact k8.o.1 (by omega))));have g2:Hid ((hx D).toNat=fgN b N (t+s)):=vv (by
          unfold fgN;rw[HD.o,b7.o,HM.o,q54 HB.o.two HX.o (by omega)])
         go_wp2_with (at_builtin;refine wpList_append_own _ rfl _ _ 132 rfl (G+1) 5 i0 (.int .u8 0) 1 1 Tryz.underlying132 hi d5 d6 d7 rfl (by decide) _ (t+s) (u8s (q5Y b N (t+s))) rfl (a8.o.alloc _) ⟨wr.heap.size,0,none⟩ 1 1 [.int .u8 ((hx D).toNat:Int)] rfl rfl (cell_one_new _ _ _) (by simp [Value.oneCell']) (by have:=c4.o;have:=b4.o;unfold maxLen;omega) (by have:=c4.o;have:=b4.o;omega) (by have:=a9.o.lt;simp;omega) ?_)
         intro v' w5 a2 a0 _;replace a2:w5.ownsRow (G+1) 5 1 v' (t+s+1) (u8s (q5Y b N (t+s+1))):=by
          rw[q3R,q3i,<- g2.o];exact a2
         have b9:w5.heap[G]?=wr.heap[G]?:=(a0.block G (by have:=a9.o.lt;simp;omega) (fun e=>by have:=(a4 G e.symm).1;omega)).trans (Below.heap_alloc wr _ G a9.o.lt);have a5:=vv a2;have g3:=vv (q6J a9.o b9);have c0:=vv (q8c a6.o b9);have c5:=vv ((a7.o.alloc f9 (.cells #[.int .u8 ((hx D).toNat:Int)] 5)).grown a0 (by simp;omega) (fun e he=>by have:=(a4 e he).1;have:=HG.o;omega));clear a2 a0 b9 a8 a9 a6 a7 a4;go_wp2;go_roundw
         case measure=>simp [intOf];omega
         case rel =>
          refine⟨s+1,E,by first|rfl|go_num,by omega,rfl,?_,a5.o,fun _=>g0.o,g3.o,c0.o,c5.o⟩;rw[l0.o,b7.o,Nat.div_div_eq_div_mul,Nat.pow_succ]
        ·clear c6;obtain rfl:m'=0:=by omega
         have f9:=a7.o.size;have g0:=vv (q79 (N:=N) (t:=t) (s:=s) (p:=q) (X:=X) HB.o.two HX.o (by omega) (.inr (by rw[<- HM.o,<- b7.o];omega)));have g2:Hid ((hx D).toNat=fgN b N (t+s)):=vv (by
          unfold fgN;rw[HD.o,b7.o,HM.o,q54 HB.o.two HX.o (by omega)])
         go_wp2_with (at_builtin;refine wpList_append_own _ rfl _ _ 132 rfl (G+1) 5 i0 (.int .u8 0) 1 1 Tryz.underlying132 hi d5 d6 d7 rfl (by decide) _ (t+s) (u8s (q5Y b N (t+s))) rfl (a8.o.alloc _) ⟨wr.heap.size,0,none⟩ 1 1 [.int .u8 ((hx D).toNat:Int)] rfl rfl (cell_one_new _ _ _) (by simp [Value.oneCell']) (by have:=c4.o;have:=b4.o;unfold maxLen;omega) (by have:=c4.o;have:=b4.o;omega) (by have:=a9.o.lt;simp;omega) ?_)
         intro v' w5 a2 a0 _;replace a2:w5.ownsRow (G+1) 5 1 v' (t+s+1) (u8s (q5Y b N (t+s+1))):=by
          rw[q3R,q3i,<- g2.o];exact a2
         have b9:w5.heap[G]?=wr.heap[G]?:=(a0.block G (by have:=a9.o.lt;simp;omega) (fun e=>by have:=(a4 G e.symm).1;omega)).trans (Below.heap_alloc wr _ G a9.o.lt);have a5:=vv a2;have g3:=vv (q6J a9.o b9);have c0:=vv (q8c a6.o b9);have c5:=vv ((a7.o.alloc f9 (.cells #[.int .u8 ((hx D).toNat:Int)] 5)).grown a0 (by simp;omega) (fun e he=>by have:=(a4 e he).1;have:=HG.o;omega));clear a2 a0 b9 a8 a9 a6 a7 a4;go_wp2;go_roundw
         case measure=>simp [intOf];omega
         case rel =>
          refine⟨s+1,E,by first|rfl|go_num,by omega,rfl,?_,a5.o,fun _=>g0.o,g3.o,c0.o,c5.o⟩;rw[l0.o,b7.o,Nat.div_div_eq_div_mul,Nat.pow_succ]
        ·clear c6;obtain rfl:m'=0:=by omega
         have h5:M/X=0:=Nat.eq_zero_of_not_pos fun h=>absurd (k8.o.2 h) (by omega)
         have l1:0<s:=by
          rcases Nat.eq_zero_or_pos s with e|e
          ·exfalso
           have hp:=q2o HR.o.len n1.o;have h4:=b7.o;rw[e,Nat.pow_zero,Nat.div_one] at h4;have:=Nat.div_add_mod M X;rw[h5,Nat.mul_zero] at this;omega
          ·exact e
         have HE:=vv (q8Y (N:=N) (t:=t) (s:=s) (p:=q) (X:=X) HB.o.two HX.o d4.o (.inr ⟨by rw[<- HM.o];exact h5,by rw[<- HM.o,<- b7.o];omega⟩));clear h5;have g4:=vv l1;clear l1 a4;go_wp2;go_roundw
         case measure =>
          have e1:=i3.o;have e2:=q31 a8.o;have e3:=q6V HB.o.two HK.o c2.o;have e4:=b4.o;have e5:=g4.o;omega
         case rel=>exact⟨t+s,0,V,rfl,a6.o.le,b3.o,a9.o,by rw[HE.o,<- HM.o];exact a6.o,c2.o,q6V HB.o.two HK.o c2.o,a8.o,a7.o⟩
        ·clear c6;have HE:=vv (q8Y (N:=N) (t:=t) (s:=s) (p:=q) (X:=X) HB.o.two HX.o d4.o (.inl (by have:=d4.o;omega)));have g4:Hid (0<s):=vv (by have:=d4.o;have:=HB.o.one;omega);clear a4;go_wp2;go_roundw
         case measure =>
          have e1:=i3.o;have e2:=q31 a8.o;have e3:=q6V HB.o.two HK.o c2.o;have e4:=b4.o;have e5:=g4.o;omega
         case rel=>exact⟨t+s,m',V,rfl,a6.o.le,b3.o,a9.o,by rw[HE.o,<- HM.o];exact a6.o,c2.o,q6V HB.o.two HK.o c2.o,a8.o,a7.o⟩
      ·obtain⟨i,rfl⟩:∃i,j=i+1:=⟨j-1,by omega⟩;obtain rfl:z=(i:Int):=by omega
       clear hz;have n8:(i:Int)<(m:Int):=by omega
       have q8:(0:Int)<=(i:Int):=by omega
       have l2:i<n:=by have:=b6.o;omega
       have hx:=hO.cell (i:=i) (by rw[b3.o];exact l2);rw[k1.o i (by omega)] at hx;have f2:=HR.o.nth_lt i;have hf:=hO.frozen i;have q9:=hO.lt;have D:=vv (q49 (xs:=toL M) (V:=V.take m) (i:=i) (d:=X) (r:=R) (by omega) f4 f2 (fun q hq=>by rw[q00];exact f5.o q hq) (by rw[q00];exact k0.o) (q1A M));have r0:(1:Int)<=(X:Int):=by omega
       have e6:=HB.o.top;rw[<- HX.o] at e6;have r1:=q7M (nth (toL M) i) R f2 (by omega);have HJ:Hid ((((nth (toL M) i:Nat):Int)+4294967296*(R:Int))/(X:Int)%4294967296=(((R*4294967296+nth (toL M) i)/X:Nat):Int)/\(((nth (toL M) i:Nat):Int)+4294967296*(R:Int))%(X:Int)=(((R*4294967296+nth (toL M) i)%X:Nat):Int)):=vv (by
        have e:((nth (toL M) i:Nat):Int)+4294967296*(R:Int)=((R*4294967296+nth (toL M) i:Nat):Int):=by omega
        rw[e,<- Int.natCast_ediv,<- Int.natCast_emod];have:=D.o.2.2;generalize (R*4294967296+nth (toL M) i)/X=Q at *
        exact⟨by omega,rfl⟩)
       have n9:(R:Int)<(X:Int):=by omega
       have o0:=vv hj;clear hO hj d2 l2;go_wp2;go_roundw
       case measure=>simp [intOf]
       case rel =>
        refine⟨i,_,(R*4294967296+nth (toL M) i)%X,V.set i ((R*4294967296+nth (toL M) i)/X),rfl,by omega,by have:=o0.o;omega,congrArg _ HJ.o.2,Nat.mod_lt _ (by omega),by have:=D.o.2.1;rwa [q00] at this,by rw[List.length_set];exact b3.o,
         d3.o.set (by rw[b3.o];have:=b6.o;omega) D.o.2.2 HJ.o.1,fun p hp=>by rw[q0e _ _ (by omega)];exact k1.o p (by omega),fun p hp=>?_,q17 f6.o (Go.Proofs.YtppgcnhlpnmieaaGreatDoor.only_setCell (World.grownBy.refl _ _) (.inl rfl) _) (Nat.lt_succ_self _),f7.o.setCell (p:=⟨G,i,none⟩) (by show _<=G;rw[HG.o];exact lr) _⟩
        rw[List.take_set];by_cases d8:p=i
        ·subst d8;rw[q0H _ p _ p (by rw[List.length_take,b3.o];have:=b6.o;omega),if_pos rfl];have:=D.o.1
         rwa [q00] at this
        ·rw[q0e _ _ d8];exact f5.o p (by omega)
theorem q7b{b N k0:Nat}(hb:2<=b):∀k,k<=k0->q3e b (N%b^k0) k=q3e b N k
 | 0,_=>rfl
 | k+1,h=>by
  have e:=q54 (b:=b) (p:=k0) (N:=N) (t:=0) (s:=k) (X:=b^k0) hb rfl (by omega);rw[Nat.pow_zero,Nat.div_one,Nat.zero_add] at e;show fgN b (N%b^k0) k::q3e b (N%b^k0) k=fgN b N k::q3e b N k;rw[q7b hb k (by omega)];unfold fgN;rw[e]
theorem q55{b N k0:Nat}(hb:2<=b):∀k1,q3e b N (k1+k0)=q3e b (N/b^k0) k1++q3e b (N%b^k0) k0
 | 0=>by rw[Nat.zero_add,q7b hb k0 lr];rfl
 | k1+1=>by
  rw[show k1+1+k0=(k1+k0)+1 by omega];show fgN b N (k1+k0)::q3e b N (k1+k0)=fgN b (N/b^k0) k1::(q3e b (N/b^k0) k1++_);rw[q55 hb k1];unfold fgN;rw[Nat.div_div_eq_div_mul,<- Nat.pow_add,Nat.add_comm k0 k1]
theorem q5K{b:Nat}(hb:2<=b)(N:Nat):∃k,HasLen b N k:=by
 have:∀m,N<b^m->∃k,k<=m/\HasLen b N k:=by
  intro m
  induction m with
  | zero=>intro h;exact⟨0,lr,h,fun h=>absurd h (by omega)⟩
  | succ m ih =>
   intro h;rcases Nat.lt_or_ge N (b^m) with e|e
   ·obtain⟨k,h1,h2⟩:=ih e;exact⟨k,by omega,h2⟩
   ·exact⟨m+1,lr,h,fun _=>e⟩
 obtain⟨k,_,h⟩:=this N (Nat.lt_of_lt_of_le Nat.lt_two_pow_self (Nat.pow_le_pow_left hb N));exact⟨k,h⟩
theorem q29{b N k m:Nat}(hb:2<=b)(h:HasLen b N k)(hm:N<b^m):k<=m:=by
 rcases Nat.lt_or_ge m k with e|e
 ·have h1:=h.ge (by omega);have h2:b^m<=b^(k-1):=Nat.pow_le_pow_right (by omega) (by omega);omega
 ·exact e
theorem q41{b N k k0:Nat}(hb:2<=b)(h:HasLen b N k)(hk:k0<k):HasLen b (N/b^k0) (k-k0):=by
 constructor
 ·apply Nat.div_lt_of_lt_mul
  rw[<- Nat.pow_add,show k0+(k-k0)=k by omega];exact h.lt
 ·intro _;rw[Nat.le_div_iff_mul_le (Nat.pow_pos (by omega)),<- Nat.pow_add,show k-k0-1+k0=k-1 by omega];exact h.ge (by omega)
def q5f(n:Nat):Prop:=∀(A:Option Addr) (m c N k:Nat) (least:Int) (w:World),m<=n->Rd w A m c (toL N)->HasLen 16 N k->least<=70000->-100000000+20000*(n:Int)<=least ->
 Calls Tryz.prog 272 #[.slice A m c,.int .i64 16,.int .i64 least] w (qd3 16 N (max least.toNat k) w)
theorem qbT(n:Nat):4294967296^n=16^(8*n):=by rw[Nat.pow_mul]
theorem q3v(n:Nat)(hn:n<=40):q5f n:=by
 intro A m c N k least w hm ha hk hl _;have h:=q4K A m c N 16 7 k least w qdm ha (by omega) hk (by
  have h1:=ha.lt;rw[q00,qbT] at h1;have:=q29 (by decide) hk h1;omega) hl
 exact h
theorem q7V(n:Nat)(hn:40<=n)(hn2:n<2000)(ih:q5f n):q5f (n+1):=by
 intro A m c N k least w hm ha hk hl b2;rcases Nat.lt_or_ge m (n+1) with f1|d4
 ·exact ih A m c N k least w (by omega) ha hk hl (by omega)
 obtain rfl:m=n+1:=by omega
 obtain⟨K0,b3⟩:=yx ((n+1)/2*32/5);have a1:=ha.lt;rw[q00] at a1;have f2:((n+1:Nat):Int)<=2000:=by omega
 have d5:(40:Int)<((n+1:Nat):Int):=by omega
 have b4:=vv fun w'=>q7q K0 w' (by omega)
 have b5:=vv ih;have b6:=vv fun w=>q9P 16 w (by decide)
 rw[show bl 16=5 from rfl] at b6;obtain⟨i0,hi,d6,d7,d8⟩:=info_parts q8A;go_enter Tryz.func272,Tryz.ntmps272
 go_wp2_with fail
 refine(b6.o _).mono ?_;rintro e w' ⟨rfl,rfl⟩;go_wp2_with fail
 have eK:((n:Int)+1)/2*32/5=(K0:Int):=by omega
 rw[eK];have f3:=vv (And.intro b3 (And.intro hn hn2));have f4:(K0:Int)<=13000:=by omega
 have a3:0<16^K0:=Nat.pow_pos (by decide);have d9:K0+1<=k:=by
  rcases Nat.lt_or_ge K0 k with e|e
  ·exact e
  ·exfalso
   have h1:=hk.lt;have h2:16^k<=16^(8*n):=Nat.pow_le_pow_right (by decide) (by omega);have h3:4294967296^n<=N:=by
    have:=ha.words;rcases Nat.lt_or_ge N (4294967296^n) with e2|e2
    ·have:=ha.bound (k:=n) e2;omega
    ·exact e2
   rw[qbT] at h3;omega
 have b7:=vv fun w' (h:Below w.heap.size w w') B m' d (hb:Rd w' B m' d (toL (16^K0)))=>q1v A B (n+1) m' c d N (16^K0) w' (ha.below h rfl) hb a3 (by omega)
 have e0:Hid (∀w' B m' d,Rd w' B m' d (toL (N/16^K0))->m'<=n):=vv fun w' B m' d hb=>hb.bound (k:=n) (by
  apply Nat.div_lt_of_lt_mul
  refine Nat.lt_of_lt_of_le a1 ?_;rw[qbT,qbT,<- Nat.pow_add];exact Nat.pow_le_pow_right (by decide) (by omega))
 have e1:Hid (∀w' B m' d,Rd w' B m' d (toL (N%16^K0))->m'<=n):=vv fun w' B m' d hb=>hb.bound (k:=n) (by
  refine Nat.lt_of_lt_of_le (Nat.mod_lt _ a3) ?_;rw[qbT];exact Nat.pow_le_pow_right (by decide) (by omega))
 obtain⟨k1,a6⟩:=q5K (b:=16) (by decide) (N%16^K0);have a7:k1<=K0:=q29 (by decide) a6 (Nat.mod_lt _ a3);have e3:=vv (q41 (b:=16) (by decide) hk (show K0<k by omega));have e4:=vv a6;have a4:Hid (max (least-(K0:Int)).toNat (k-K0)+K0=max least.toNat k/\max (K0:Int).toNat k1=K0/\0<K0):=vv (by omega);have b8:=vv (q55 (b:=16) (N:=N) (k0:=K0) (by decide) (max (least-(K0:Int)).toNat (k-K0)));have b9:=vv (And.intro hl b2);have f5:least<=70000:=hl;have f6:-100000000<=least:=by omega
 have a8:Hid (max (least-(K0:Int)).toNat (k-K0)<=90000):=vv (by
  have:=q29 (by decide) hk (by rw[qbT] at a1;exact a1);omega)
 clear b3 hn hn2 hk hl b2 hm ha d4 a1 d9 a6 a7 a3 eK ih;refine(b4.o _).mono ?_;rintro e w1 ⟨A1,m1,c1,rfl,c0,-,c5⟩;have c6:=vv c5;have c7:=vv c0;clear c5 c0;go_wp2_with fail
 refine(b7.o _ c6.o _ _ _ c7.o).mono ?_;rintro e w2 ⟨A2,m2,c2,A3,m3,c3,rfl,hH,hL,-,-,hB⟩;have c8:=vn c6 hB;have a9:=vv hH;have c9:=vv hL;clear hB hH hL c7 b7 b4;go_wp2_with fail
 refine(b5.o A2 m2 c2 _ _ (least-(K0:Int)) _ (e0.o _ _ _ _ a9.o) a9.o e3.o (by have:=b9.o;omega) (by have:=b9.o;omega)).mono ?_;rintro e w3 ⟨v1,rfl,d0,hB⟩;have d1:=vv (q86 d0 c8.o.size);have e5:=vn c8 hB;have b0:=vv (c9.o.below hB rfl);clear d0 hB a9 c9;go_wp2_with fail
 refine(b5.o A3 m3 c3 _ _ (K0:Int) _ (e1.o _ _ _ _ b0.o) b0.o e4.o (by omega) (by omega)).mono ?_;rintro e w4 ⟨v2,rfl,a5,hB⟩;rw[a4.o.2.1] at a5;have e6:=vv a5;have a0:=vv (Hx.row_below d1.o hB);have b1:=vn e5 hB;have e7:=hB.size;clear hB b0 d1;obtain⟨g2,c4,rfl,f7⟩:=q1E a5 a4.o.2.2;clear a5;obtain⟨K1,d2⟩:=yx (max (least-(K0:Int)).toNat (k-K0));rw[<- d2] at a0 a4 b8 a8;have e8:Hid (∀(j:Nat) u,(u8s (q3e 16 (N%16^K0) K0))[j]?=some u->w4.cell? ((⟨g2,0,none⟩:Addr).add j)=some u):=vv fun j u hu=>by
  have hj:j<K0:=by
   have:=(List.getElem?_eq_some_iff.1 hu).1
   simpa [u8s,q20] using this
  have h1:=(q27 e6.o hj).1;rw[q4G _ (by rw[q20];exact hj)] at hu;cases hu
  have ea:(⟨g2,0,none⟩:Addr).add j=⟨g2,j,none⟩:=by unfold Addr.add;split<;>simp_all
  rw[ea];exact h1
 clear d2;go_wp2_with (at_builtin;refine wpList_append_own _ rfl _ _ 132 rfl w.heap.size 5 i0 (.int .u8 0) 1 1 Tryz.underlying132 hi d6 d7 d8 rfl (by decide) _ K1 (u8s (q3e 16 (N/16^K0) K1)) rfl a0.o ⟨g2,0,none⟩ K0 c4 (u8s (q3e 16 (N%16^K0) K0)) rfl (by simp [u8s,q20]) e8.o (q68 _) (by have:=a8.o;unfold maxLen;omega) (by have:=a8.o;omega) (by have:=b1.o.size;omega) ?_)
 intro v' w5 a2 d3 _;have e9:=vv (b1.o.grown d3 b1.o.size (fun e he=>(q6e a0.o e he).1));have f0:Hid (w5.ownsRow w.heap.size 5 1 v' (max least.toNat k) (u8s (q3e 16 N (max least.toNat k)))):=vv (by
  rw[<- a4.o.1,b8.o,q3i];exact a2)
 clear a2 d3;go_wp2;go_ret
 exact⟨_,rfl,f0.o,e9.o⟩
theorem q6B:∀n,n<=2000->q5f n
 | 0,_=>q3v 0 (by decide)
 | n+1,h=>by
  rcases Nat.lt_or_ge n 40 with e|e
  ·exact q3v (n+1) (by omega)
  ·exact q7V n e (by omega) (q6B n (by omega))
theorem q6s(b N:Nat):∀k,∀x∈q3e b N k,x<256
 | 0,_,h=>by cases h
 | k+1,x,h=>by
  rcases List.mem_cons.1 h with rfl|h
  ·exact qdi b N k
  ·exact q6s b N k x h
def q7K(b N K:Nat):ByteArray:=txt (q3e b N K)
theorem q3M{w:World}{A:Option Addr}{n c N q:Nat}(h:Rd w A n c (toL N))(hb:bl N<=32*q):n<=q:=
 h.bound (k:=q) (by
  have e:(4294967296:Nat)^q=2^(32*q):=by rw[Nat.pow_mul]
  rw[e];exact Nat.lt_of_lt_of_le (q1l N) (Nat.pow_le_pow_right (by decide) hb))
theorem qcO(g o b N K:Nat)(w:World)(hx:IntAt w g o (N:Int))
  (ht:∀A n c,Rd w A n c (toL N)->Calls Tryz.prog 272 #[.slice A n c,.int .i64 (b:Int),.int .i64 1] w (qd3 b N K w)) :
  Calls Tryz.prog 185 #[.pointer (some ⟨g,o,none⟩),.int .i64 (b:Int)] w fun e w'=>e=.returned (.string (q7K b N K))/\Below w.heap.size w w':=by
 have a0:=hx.lt;obtain⟨A,n,c,h0,h1,hr,-⟩:=hx.ex;rw[Int.natAbs_natCast] at hr;have hd:decide ((N:Int)<0)=false:=decide_eq_false (by omega);rw[hd] at h0;have HT:=vv (ht A n c hr);have H0:=vv h0;have HL:=vv a0;clear ht hr hd hx h0;go_enter Tryz.func185,Tryz.ntmps185
 go_wp2_with fail
 refine HT.o.mono ?_;rintro e w1 ⟨v,rfl,hv,hB⟩;have a1:=q2B hv (q6s b N K);have h0:w1.cell? ⟨g,o,none⟩=some (.bool false):=(hB.cell (p:=⟨g,o,none⟩) HL.o).trans H0.o;have a2:g<w1.heap.size:=Nat.lt_of_lt_of_le HL.o hB.size;have HB:=vv hB;clear hv hB h1 a0;go_wp2;go_ret
 exact⟨rfl,HB.o⟩
abbrev qdl:ByteArray:=⟨#[45]⟩
theorem qcN(g o b N K:Nat)(w:World)(hp:0<N)(hK:K<=70000)(hx:IntAt w g o (-(N:Int)))
  (ht:∀A n c,Rd w A n c (toL N)->Calls Tryz.prog 272 #[.slice A n c,.int .i64 (b:Int),.int .i64 1] w (qd3 b N K w)) :
  Calls Tryz.prog 185 #[.pointer (some ⟨g,o,none⟩),.int .i64 (b:Int)] w fun e w'=>e=.returned (.string (qdl++q7K b N K))/\Below w.heap.size w w':=by
 obtain⟨s,hs⟩:∃s:ByteArray,s=txt (q3e b N K):=⟨_,rfl⟩;have a3:(s.size:Int)<=70000:=by
  have:(txt (q3e b N K)).size=K:=by
   show((q3e b N K).map UInt8.ofNat).toArray.size=K;rw[List.size_toArray,List.length_map,q20]
  rw[hs];omega
 have a1:q7K b N K=s:=hs.symm;rw[a1];have HS:=vv hs.symm;clear hs a1 hK;have a2:=hx.lt;obtain⟨A,n,c,h0,h1,hr,-⟩:=hx.ex;rw[Int.natAbs_neg,Int.natAbs_natCast] at hr;have hd:decide (-(N:Int)<0)=true:=decide_eq_true (by omega);rw[hd] at h0;have HT:=vv (ht A n c hr);have H0:=vv h0;have HL:=vv a2;clear ht hr hd hx h0 hp;go_enter Tryz.func185,Tryz.ntmps185
 go_wp2_with fail
 refine HT.o.mono ?_;rintro e w1 ⟨v,rfl,hv,hB⟩;have a0:=q2B hv (q6s b N K);rw[HS.o] at a0;have h0:w1.cell? ⟨g,o,none⟩=some (.bool true):=(hB.cell (p:=⟨g,o,none⟩) HL.o).trans H0.o;have a4:g<w1.heap.size:=Nat.lt_of_lt_of_le HL.o hB.size;have HB:=vv hB;clear hv hB h1 a2;go_wp2;go_ret
 exact⟨rfl,HB.o⟩
theorem qcP(g o N k:Nat)(w:World)(hx:IntAt w g o (N:Int))(hk:HasLen 16 N k)(hb:bl N<=60000):
  Calls Tryz.prog 185 #[.pointer (some ⟨g,o,none⟩),.int .i64 16] w fun e w'=>e=.returned (.string (q7K 16 N (max 1 k)))/\Below w.heap.size w w':=
 qcO g o 16 N (max 1 k) w hx fun A n c hr=>by
  have hn:n<=2000:=q3M (q:=2000) hr (by omega);have h:=q6B n hn A n c N k 1 w lr hr hk (by decide) (by omega);exact h
theorem qcQ(g o N k:Nat)(w:World)(hx:IntAt w g o (N:Int))(hk:HasLen 10 N k)(hb:bl N<=1000):
  Calls Tryz.prog 185 #[.pointer (some ⟨g,o,none⟩),.int .i64 10] w fun e w'=>e=.returned (.string (q7K 10 N (max 1 k)))/\Below w.heap.size w w':=
 qcO g o 10 N (max 1 k) w hx fun A n c hr=>by
  have hn:n<=32:=q3M (q:=32) hr (by omega);have hkk:k<=2000:=by
   obtain⟨q,hq⟩:∃q:Nat,q=1000:=⟨_,rfl⟩;rw[<- hq] at hb;have:=q29 (by decide) hk (Nat.lt_of_lt_of_le (q1l N) (Nat.le_trans (Nat.pow_le_pow_right (by decide) hb) (Nat.pow_le_pow_left (by decide) q)));omega
  exact q4K A n c N 10 9 k 1 w qcJ hr (by omega) hk hkk (by decide)
theorem qbI(g o N k:Nat)(w:World)(hp:0<N)(hx:IntAt w g o (-(N:Int)))(hk:HasLen 10 N k)(hb:bl N<=1000):
  Calls Tryz.prog 185 #[.pointer (some ⟨g,o,none⟩),.int .i64 10] w fun e w'=>e=.returned (.string (qdl++q7K 10 N (max 1 k)))/\Below w.heap.size w w':=by
 have a0:max 1 k<=70000:=by
  obtain⟨q,hq⟩:∃q:Nat,q=1000:=⟨_,rfl⟩;rw[<- hq] at hb;have:=q29 (by decide) hk (Nat.lt_of_lt_of_le (q1l N) (Nat.le_trans (Nat.pow_le_pow_right (by decide) hb) (Nat.pow_le_pow_left (by decide) q)));omega
 exact qcN g o 10 N (max 1 k) w hp a0 hx fun A n c hr=>by
  have hn:n<=32:=q3M (q:=32) hr (by omega);have a1:k<=2000:=by
   obtain⟨q,hq⟩:∃q:Nat,q=1000:=⟨_,rfl⟩;rw[<- hq] at hb;have:=q29 (by decide) hk (Nat.lt_of_lt_of_le (q1l N) (Nat.le_trans (Nat.pow_le_pow_right (by decide) hb) (Nat.pow_le_pow_left (by decide) q)));omega
  exact q4K A n c N 10 9 k 1 w qcJ hr (by omega) hk a1 (by decide)
theorem qay:∀d,d<10->UInt8.ofNat (hx d).toNat=UInt8.ofNat (48+d):=by decide
theorem q7C{N k:Nat}(h:HasLen 10 N (k+1)):HasLen 10 (N/10) k:=by
 have:=q41 (b:=10) (k0:=1) (by decide) h;rcases Nat.eq_zero_or_pos k with e|e
 ·subst e;have h1:=h.lt;exact⟨by rw[Nat.pow_zero];omega,fun h=>absurd h (by omega)⟩
 ·have:=this (by omega)
  rwa [Nat.pow_one,Nat.add_sub_cancel] at this
theorem q91:∀(k N:Nat),HasLen 10 N k->(q3e 10 N (max 1 k)).map UInt8.ofNat=Lib.decDigits N
 | 0,N,h=>by
  have h0:N=0:=by have:=h.lt;rw[Nat.pow_zero] at this;omega
  subst h0;rw[Lib.decDigits_one (by decide)]
  rfl
 | 1,N,h=>by
  have h1:=h.lt;rw[Nat.pow_one] at h1;rw[Lib.decDigits_one h1];show[UInt8.ofNat (fgN 10 N 0)]=_;unfold fgN;rw[Nat.pow_zero,Nat.div_one,Nat.mod_eq_of_lt h1,qay N h1]
 | k+2,N,h=>by
  have h1:=h.ge (by omega);have h2:10^1<=10^(k+2-1):=Nat.pow_le_pow_right (by decide) (by omega);have hd:=q7C h;have ih:=q91 (k+1) (N/10) hd;rw[Lib.decDigits,dif_neg (by omega)];have ha:=q55 (b:=10) (N:=N) (k0:=1) (by decide) (k+1);rw[Nat.pow_one] at ha;rw[show max 1 (k+2)=k+1+1 by omega,ha,List.map_append];rw[show max 1 (k+1)=k+1 by omega] at ih;rw[ih];congr 1
  show[UInt8.ofNat (fgN 10 (N%10) 0)]=_;unfold fgN;rw[Nat.pow_zero,Nat.div_one,Nat.mod_mod,qay _ (Nat.mod_lt _ (by decide))]
abbrev qax(u:Int):ByteArray:=⟨(Lib.itoa u).toArray⟩
theorem q7W{N k:Nat}(h:HasLen 10 N k):q7K 10 N (max 1 k)=⟨(Lib.decDigits N).toArray⟩:=by
 unfold q7K txt;rw[q91 k N h]
theorem qbJ(g o:Nat)(u:Int)(w:World)(hx:IntAt w g o u)(hb:bl u.natAbs<=1000):
  Calls Tryz.prog 185 #[.pointer (some ⟨g,o,none⟩),.int .i64 10] w fun e w'=>e=.returned (.string (qax u))/\Below w.heap.size w w':=by
 obtain⟨k,hk⟩:=q5K (b:=10) (by decide) u.natAbs;by_cases h:u<0
 ·have e:qax u=qdl++q7K 10 u.natAbs (max 1 k):=by
   rw[q7W hk];unfold qax Lib.itoa;rw[if_pos h];refine ByteArray.ext (Array.toList_inj.1 ?_);rw[ByteArray.data_append,Array.toList_append]
   rfl
  rw[e];have a0:IntAt w g o (-((u.natAbs:Nat):Int)):=by
   rw[show -((u.natAbs:Nat):Int)=u by omega];exact hx
  exact qbI g o u.natAbs k w (by omega) a0 hk hb
 ·have e:qax u=q7K 10 u.natAbs (max 1 k):=by
   rw[q7W hk];unfold qax Lib.itoa;rw[if_neg h,show u.toNat=u.natAbs by omega]
  rw[e];have a0:IntAt w g o ((u.natAbs:Nat):Int):=by
   rw[show((u.natAbs:Nat):Int)=u by omega];exact hx
  exact qcQ g o u.natAbs k w a0 hk hb
theorem qbK(g o:Nat)(u:Int)(w:World)(hx:IntAt w g o u)(hb:bl u.natAbs<=1000):
  Calls Tryz.prog 232 #[.pointer (some ⟨g,o,none⟩)] w fun e w'=>e=.returned (.string (qax u))/\Below w.heap.size w w':=by
 have HT:=vv (qbJ g o u w hx hb);clear hx hb;go_enter Tryz.func232,Tryz.ntmps232
 go_wp2_with fail
 refine HT.o.mono ?_;rintro e w1 ⟨rfl,hB⟩;have HB:=vv hB;clear hB;go_wp2;go_ret
 exact⟨rfl,HB.o⟩
end Go.Proofs.YtppgcnhlpnmieaaGreatDoor.B
