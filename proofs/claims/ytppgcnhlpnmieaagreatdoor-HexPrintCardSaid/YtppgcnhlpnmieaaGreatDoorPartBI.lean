/- Lemmas. -/
import Derived.Test.YtppgcnhlpnmieaaGreatDoorPartBH
import Derived.Test.YtppgcnhlpnmieaaGreatDoorPartBE
import Derived.Outline
set_option linter.all false
set_option maxHeartbeats 2000000
set_option maxRecDepth 1000000
namespace Go.Proofs.YtppgcnhlpnmieaaGreatDoor.Bld
open Go Go.RowKit R5
theorem qdE:(187:Nat)≠5:=by decide
theorem WriteString(B b:Nat)(bs:List Value)(s:ByteArray)(w:World)(h:IsF B b bs w)(hlen:bs.length+s.size<=140737488355328)(hBw:B<=w.heap.size):
  Calls Tryz.prog 149 #[.pointer (some ⟨b,0,none⟩),.string s] w fun e w'=>e=.returned (.tuple #[.int .i64 s.size,.nilIface])/\(AtF B b (.pointer (some ⟨b,0,none⟩)) (bs++Lib.strCells s) w'/\Below B w w'):=by
 obtain⟨i0,hi,a6,a7,a8⟩:=info_parts in8;have a9:=vv (q6t B b bs w h);go_enter Tryz.func149,Tryz.ntmps149
 go_wp2_with fail
 refine a9.o.mono ?_;rintro e w1 ⟨rfl,h1,a5⟩;obtain⟨hB,v,a3,a2,b0⟩:=h1;have c0:w1.cell? ⟨b,0,none⟩=some (.pointer (some ⟨b,0,none⟩)):=by rw[Lib.cell_of_heap a3];rfl
 have c1:w1.cell? ⟨b,1,none⟩=some v:=by rw[Lib.cell_of_heap a3];rfl
 go_wp2_with (at_builtin;refine Lib.wpList_append_own_stringF _ rfl _ _ 132 9 rfl B 5 i0 Tryz.underlying132 Tryz.underlying9 hi a6 a7 a8 _ _ _ rfl a2 s rfl ?c3 ?c4 ?c5 ?_)
 case c3=>unfold maxLen;omega
 case c4=>omega
 case c5=>have:=a5.size;omega
 intro v' w2 a0 a1 _;have b1:b<w1.heap.size:=by
  rcases Nat.lt_or_ge b w1.heap.size with h'|h'
  ·exact h'
  ·simp [Array.getElem?_eq_none h'] at a3
 have a4:w2.heap[b]?=some (.cells #[.pointer (some ⟨b,0,none⟩),v] 187 (0,0)):=by
  rw[a1.block b b1 (fun e=>b0 e.symm)];exact a3
 have d0:w2.cell? ⟨b,0,none⟩=some (.pointer (some ⟨b,0,none⟩)):=by rw[Lib.cell_of_heap a4];rfl
 have d1:w2.cell? ⟨b,1,none⟩=some v:=by rw[Lib.cell_of_heap a4];rfl
 have f1:w2.frozen? ⟨b,1,none⟩=false:=Lib.frozen_of_heap a4 1;obtain⟨ao,n',cap,rfl⟩:∃ao n' cap,v'=.slice ao n' cap:=by
  rcases a0.2 with ⟨hv,_⟩|⟨g,cap,cur,fz,hv,_⟩
  ·exact⟨_,_,_,hv⟩
  ·exact⟨_,_,_,hv⟩
 have HF:Hid (AtF B b (.pointer (some ⟨b,0,none⟩)) (bs++Lib.strCells s) (w2.setCell ⟨b,1,none⟩ (.slice ao n' cap))/\Below B w (w2.setCell ⟨b,1,none⟩ (.slice ao n' cap))):=vv
  ⟨Lib.BuilderAtF.put hB a4 (bs':=bs++Lib.strCells s) (by simpa [Lib.strCells_length] using a0) qdE,
   (a5.grown a1 (by have:=a5.size;omega) (fun k hk=>(a2.lt k hk).1)).setCell (p:=⟨b,1,none⟩) hB _⟩
 clear a2 a0 a1 a3 a4;go_wp2;go_ret2
 exact⟨rfl,HF.o.1,HF.o.2⟩
theorem qcL{w:World}{b:Nat}{o:Obj}(h:w.heap[b]?=some o):b<w.heap.size:=(Array.getElem?_eq_some_iff.1 h).1
theorem q7D(b n:Nat)(w:World)(hbk:w.heap[b]?=some (.cells #[.pointer (some ⟨b,0,none⟩),.slice none 0 0] 187 (0,0)))(hn:n<=1000000):
  Calls Tryz.prog 238 #[.pointer (some ⟨b,0,none⟩),.int .i64 n] w fun e w'=>e=.returned (.tuple #[])/\(Lib.BuilderAt 187 5 b b (.pointer (some ⟨b,0,none⟩)) [] w'/\Below b w w'):=by
 have a1:=qcL hbk;obtain⟨cs,a2,a6,a3⟩:=Lib.run_makeNoZero (P:=Tryz.prog) w.drew #[3] 132 5 Tryz.underlying132 n (by omega);have hw:IntKind.i64.wrap (IntKind.i64.wrap 0+(n:Int))=n:=by
  rw[IntKind.wrap_i64,IntKind.wrap_i64];omega
 have a4:(callFunc 301 #[.int .i64 (IntKind.i64.wrap (IntKind.i64.wrap 0+(n:Int)))]).run Tryz.prog w.drew=.ok (.value (.slice (some ⟨w.drew.heap.size,0,none⟩) n cs.size)) (w.drew.drew.drew.alloc (.cells cs 5)):=by
  rw[hw,run_callFunc_extern Tryz.func301 (by kernel_rfl) (by kernel_rfl) (by kernel_rfl) (e:=Extern.BytealgMakeNoZero.makeNoZero #[3] #[132]) (by kernel_rfl),a2]
  rfl
 have c1:w.drew.cell? ⟨b,1,none⟩=some (.slice none 0 0):=by
  have:w.drew.heap[b]?=_:=hbk;rw[Lib.cell_of_heap this];rfl
 have c2:(w.alloc (.cells cs 5)).cell? ⟨b,1,none⟩=some (.slice none 0 0):=by
  have:(w.alloc (.cells cs 5)).heap[b]?=_:=(Lib.alloc_old w _ b a1).trans hbk;rw[Lib.cell_of_heap this];rfl
 have f2:(w.alloc (.cells cs 5)).frozen? ⟨b,1,none⟩=false:=Lib.frozen_of_heap ((Lib.alloc_old w _ b a1).trans hbk) 1;have a5:∀W:World,(Builtin.copy_ #[132,132] 3 #[.slice (some ⟨w.heap.size,0,none⟩) 0 cs.size,.slice none 0 0]).run Tryz.prog W=.ok (goInt 0) W:=
  fun W=>run_copy_none W 132 132 3 5 _ _ 0 cs.size 0 0 Tryz.underlying132 (by kernel_rfl) rfl
 clear hw;have hF:=Lib.grown_fresh (T:=187) (e:=5) (cs:=cs) (Nat.le_refl b) hbk (Nat.le_of_lt a1) (a3 (by unfold maxLen;omega)) qdE;rw[World.setCell_alloc_past _ _ _ _ a1] at hF;have HF:=vv hF;clear hF;go_enter Tryz.func238,Tryz.ntmps238
 go_wp2_with fail
 refine q01 (fun w'=>w'.cell? ⟨b,1,none⟩=some (.slice none 0 0)) 14
  (.still 0 (.still 1 (.still 2 (.still 3 (.still 4 (.still 5 (.still 6 (.still 7 (.still 9 (.still 10 (.still 11 (.still 12 (.still 13 (.one 8 .done)))))))))))))) (by kernel_rfl) (by kernel_rfl) (fun _ _ d _ _ h=>by cases d<;>exact h) c1 (fun hS0=>?_)
 iterate 13
  refine q02 (v:=?_) rfl (by rfl) ?_ ?_;rotate_left
  ·intro w a7;go_simp;with_reducible rfl
  simp only[Act.put,sa,sb,sc]
 refine q03 rfl (by rfl) (fun K hK=>?_);go_simp;refine hK.out _ _ c2 (fun a0=>?_);clear hK;refine q08 ?_;simp only[List.drop_succ_cons,List.drop_zero];clear a0 hS0;go_wp2;go_end0
 exact⟨rfl,HF.o⟩
theorem Grow_fresh(b n:Nat)(w:World)(hbk:w.heap[b]?=some (.cells #[.pointer none,.slice none 0 0] 187 (0,0)))(hn:n<=1000000)(h0:0<n):
  Calls Tryz.prog 148 #[.pointer (some ⟨b,0,none⟩),.int .i64 n] w fun e w'=>e=.returned (.tuple #[])/\(Lib.BuilderAt 187 5 b b (.pointer (some ⟨b,0,none⟩)) [] w'/\Below b w w'):=by
 have a7:=qcL hbk;obtain⟨w1,a1⟩:=yx (w.setCell ⟨b,0,none⟩ (.pointer (some ⟨b,0,none⟩)));have a0:w1.heap[b]?=some (.cells #[.pointer (some ⟨b,0,none⟩),.slice none 0 0] 187 (0,0)):=by
  rw[a1];simp [World.setCell,Array.getElem?_modify,hbk]
 have c1:w1.cell? ⟨b,1,none⟩=some (.slice none 0 0):=by rw[Lib.cell_of_heap a0];rfl
 have a2:Below b w w1:=by rw[a1];exact(Below.refl b w).setCell (p:=⟨b,0,none⟩) (Nat.le_refl b) _
 have a3:=vv (q1N b w (by rw[Lib.cell_of_heap hbk];rfl) (by simp [World.shape?,hbk]) (Lib.frozen_of_heap hbk 0));rw[<- a1] at a3;have hU:Lib.BuilderAt 187 5 b b (.pointer (some ⟨b,0,none⟩)) [] w1:=⟨Nat.le_refl b,.slice none 0 0,a0,World.ownsRow_nil _ _ _ _,by simp [Value.ownBlock]⟩;have HU:=vv hU;have a4:=vv a2;have a5:=vv (q7D b n w1.drew a0 hn);have a8:(0:Int)<(n:Int):=by omega
 have c1':w1.drew.cell? ⟨b,1,none⟩=some (.slice none 0 0):=c1;clear hU a2 a1 hbk a0;go_enter Tryz.func148,Tryz.ntmps148
 go_wp2_with fail
 refine a3.o.mono ?_;rintro e w' ⟨rfl,hw⟩;subst hw;go_wp2_with fail
 have c1'':w'.cell? ⟨b,1,none⟩=some (.slice none 0 0):=c1;refine q01 (fun w'=>w'.cell? ⟨b,1,none⟩=some (.slice none 0 0)) 13
  (.still 0 (.still 1 (.still 2 (.still 3 (.still 4 (.still 5 (.still 6 (.still 7 (.still 8 (.still 9 (.still 10 (.still 11 (.still 12 .done))))))))))))) (by kernel_rfl) (by kernel_rfl) (fun _ _ d _ _ h=>by cases d<;>exact h) c1'' (fun hS0=>?_)
 have a6:IntKind.i64.wrap 0=0:=by decide
 iterate 13
  refine q02 (v:=?_) rfl (by rfl) ?_ ?_;rotate_left
  ·intro w a9;go_simp;with_reducible rfl
  simp only[Act.put,sa,sb,sc]
 refine q0G rfl ?_;clear hS0 a6;go_wp2_with fail
 refine a5.o.mono ?_;rintro e w2 ⟨rfl,h1,h2⟩;have H1:=vv h1;have H2:=vv h2;clear h1 h2;go_wp2;go_end0
 exact⟨rfl,H1.o,a4.o.drew.trans H2.o⟩
end Go.Proofs.YtppgcnhlpnmieaaGreatDoor.Bld
