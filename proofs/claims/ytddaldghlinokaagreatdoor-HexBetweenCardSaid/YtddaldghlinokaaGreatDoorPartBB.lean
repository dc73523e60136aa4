/- Lemmas. -/
import Derived.Test.YtddaldghlinokaaGreatDoorPartBA
import Derived.Laws.AppendOwnNone
import Derived.Shelf.Abstract
set_option linter.all false
namespace Go.Proofs.YtddaldghlinokaaGreatDoor
open Go Go.RowKit
theorem wpList_append_rows {P : Program} {w : World} {ops : Array Oper} {rest : List Oper} {o : Oper} {a : Act} {Q : Exit -> Act -> World -> Prop} (hgd : o.guard = none) (s x : Operand) (t : TypeId)
  (ho : o.op = .call { callee := .builtin .append, args := #[s, x], argTypes := #[t, t] })
  (base base2 : Nat) (e : TypeId) (i : TypeInfo) (z : Value) (bytes : Nat) (ht : P.underlying t = some (.slice e)) (hi : P.info? e = some i) (hz : i.zero = some z)
  (hsize : i.size = 1) (hby : i.bytes = bytes) (hzs : z.cells.size = 1)
  (v : Value) (n : Nat) (xs : List Value) (hs : a.eval s = v) (hown : w.ownsRow base e 1 v n xs)
  (v2 : Value) (m : Nat) (news : List Value) (hx : a.eval x = v2) (hown2 : w.ownsRow base2 e 1 v2 m news) (h1 : ∀ u ∈ news, u.oneCell' = true)
  (h63 : n + m <= maxLen) (hbytes : (n + m) * bytes <= 140737488355328) (hbase : base <= w.heap.size)
  (h : ∀ v' w', w'.ownsRow base e 1 v' (n + m) (xs ++ news) -> w.grownBy w' v.ownBlock -> wpList P ops Q rest (a.put o.dst v') w') : wpList P ops Q (o :: rest) a w := by
 obtain ⟨hl, hc⟩ := hown2
 rcases hc with ⟨rfl, rfl⟩ | ⟨g, cap, cur, rfl, hb, hg, hc, hm, hs2, ht2⟩
 ·have hn : news = [] := List.eq_nil_of_length_eq_zero (by simpa using hl)
  subst hn
  exact wpList_append_own_none hgd s x t ho base e i 1 ht hi _ n xs hs hown hx (h _ _ (by simpa using hown) (World.grownBy.refl _ _))
 ·refine wpList_append_own w hgd s x t ho base e i z 1 bytes ht hi hz hsize hby hzs (by decide) v n xs hs hown ⟨g, 0, none⟩ m cap news hx hl (fun j u hj => ?_) h1 h63 hbytes hbase (fun v' w' h2 h3 _ => h v' w' h2 h3)
  have hj2 : j < m * 1 := by
   have := (List.getElem?_eq_some_iff.1 hj).1
   omega
  rw [<- ht2, List.getElem?_take, if_pos hj2] at hj
  have ea : Addr.add ⟨g, 0, none⟩ j = ⟨g, j, none⟩ := by cases j with | zero => rfl | succ j => simp [Addr.add]
  rw [ea, <- hj]
  simp only [World.cell?, hg]
  simp
end Go.Proofs.YtddaldghlinokaaGreatDoor
namespace Go.Proofs.YtddaldghlinokaaGreatDoor.Scn
open Go Go.RowKit
theorem kind_ten : Kind 282 ten := ⟨enters_of Tryz.func282 (by kernel_rfl) rfl, ten_, fun t => ⟨Nat.lt_trans (ten_small t).1 (by decide), (ten_small t).2⟩⟩
theorem kind_sixteen : Kind 336 sixteen := ⟨enters_of Tryz.func336 (by kernel_rfl) rfl, sixteen_, sixteen_small⟩
theorem must (K : Nat) (D : ByteArray -> Nat × Nat) (hK : Kind K D) (b : Nat) (s : St) (w : World) (h : ScAt w b s) (hg : Bg w) :
  Calls Tryz.prog 376 #[.pointer (some ⟨b, 0, none⟩), .func (.func K) #[] #[]] w (RowPost b (s.must D).1 (s.must D).2 w) := by
 have HR := vv (row K D hK b s w h)
 have HH := vv h
 have HG := vv hg
 obtain ⟨L, u, he⟩ : ∃ L u, s.row D = (L, u) := ⟨_, _, rfl⟩
 have HE := vv he
 rw [he] at HR
 replace HR : Hid (Calls Tryz.prog 375 #[.pointer (some ⟨b, 0, none⟩), .func (.func K) #[] #[]] w (RowPost b L u w)) := HR
 clear h hg he
 by_cases hL : L.length = 0
 ·have hL2 : L = [] := List.eq_nil_of_length_eq_zero hL
  have HM : Hid (s.must D = ([], u.fail 111)) := vv (by unfold St.must; rw [HE.out]; dsimp only; rw [hL2, if_pos rfl])
  subst hL2
  clear hL
  go_enter Tryz.func376, Tryz.ntmps376
  go_wp2_with fail
  refine HR.out.mono ?_
  rintro e w1 ⟨v, rfl, hrow, hsc, hgr, _, _⟩
  have HRow := vv hrow
  have HGr := vv hgr
  have HF := vv (fail b u 111 w1 hsc (HG.out.grown hgr HH.out))
  obtain ⟨A, cap, rfl⟩ := row8_any hrow
  have HLt := vv HH.out.lt
  clear hrow hsc hgr
  go_wp2_with fail
  refine HF.out.mono ?_
  rintro e w2 ⟨rfl, hS, hG⟩
  have HS := vv hS
  have HG2 := vv (only_trans HGr.out hG)
  have HRow2 := vv (row_only HRow.out hG HLt.out)
  clear hS hG
  go_wp2
  go_ret
  rw [HM.out]
  show RowPost b [] (u.fail 111) w _ _
  exact ⟨_, rfl, HRow2.out, HS.out, HG2.out, Nat.zero_le _, fun _ h => absurd h List.not_mem_nil⟩
 ·have HM : Hid (s.must D = (L, u)) := vv (by unfold St.must; rw [HE.out]; dsimp only; rw [if_neg fun e => hL (by rw [e]; rfl)])
  have t1 : ((L.length : Int) == 0) = false := by rw [beq_eq_false_iff_ne]; omega
  clear hL
  go_enter Tryz.func376, Tryz.ntmps376
  go_wp2_with fail
  refine HR.out.mono ?_
  rintro e w1 ⟨v, rfl, hrow, hsc, hgr, hle, hsm⟩
  have HP : Hid (RowPost b L u w (.returned v) w1) := vv ⟨v, rfl, hrow, hsc, hgr, hle, hsm⟩
  obtain ⟨A, cap, rfl⟩ := row8_any hrow
  clear hrow hsc hgr hle hsm
  go_wp2
  go_ret
  rw [HM.out]
  exact HP.out
def MantPost (b : Nat) (L : List Nat) (k : Nat) (u : St) (w : World) (e : Ending) (w' : World) : Prop :=
 ∃ v, e = .returned (.tuple #[v, .int .i64 (k : Int)]) /\ w'.ownsRow w.heap.size 5 1 v L.length (u8s L) /\ ScAt w' b u /\ w.grownBy w' (some b) /\ L.length <= 131072 /\ k <= 65536 /\ ∀ d ∈ L, d < 16
set_option maxHeartbeats 1000000 in
theorem mantissa (K : Nat) (D : ByteArray -> Nat × Nat) (hK : Kind K D) (b : Nat) (s : St) (w : World) (h : ScAt w b s) (hg : Bg w) :
  Calls Tryz.prog 335 #[.pointer (some ⟨b, 0, none⟩), .func (.func K) #[] #[]] w (MantPost b (s.mantissa D).1 (s.mantissa D).2.1 (s.mantissa D).2.2 w) := by
 obtain ⟨i0, hi, hz0, hz1, hz2⟩ := info_parts inf8'
 have HR := vv (row K D hK b s w h)
 have HH := vv h
 have HG := vv hg
 have HK := vv hK
 obtain ⟨L, u, he⟩ : ∃ L u, s.row D = (L, u) := ⟨_, _, rfl⟩
 have HE := vv he
 rw [he] at HR
 replace HR : Hid (Calls Tryz.prog 375 #[.pointer (some ⟨b, 0, none⟩), .func (.func K) #[] #[]] w (RowPost b L u w)) := HR
 have HLt := vv h.lt
 clear h hg he hK
 cases hp : u.has [46] with
 | false =>
  have HM : Hid (s.mantissa D = (L, 0, if L = [] then u.fail 111 else u)) := vv (by unfold St.mantissa; rw [HE.out]; dsimp only; rw [hp]; rfl)
  have HPf := vv hp
  clear hp
  go_enter Tryz.func335, Tryz.ntmps335
  go_wp2_with fail
  refine HR.out.mono ?_
  rintro e w1 ⟨v, rfl, hrow, hsc, hgr, hle, hsm⟩
  have HRow := vv hrow
  have HGr := vv hgr
  have HSm := vv hsm
  have HHas := vv (has_f b u ⟨#[46]⟩ w1 hsc HPf.out)
  obtain ⟨A, cap, rfl⟩ := row8_any hrow
  clear hrow hsc hgr hsm
  go_wp2_with fail
  refine HHas.out.mono ?_
  rintro e w2 ⟨rfl, hS, hG⟩
  have HS := vv hS
  have HG2 := vv (only_trans HGr.out hG)
  have HRow2 := vv (row_only HRow.out hG HLt.out)
  clear hG
  by_cases hL : L.length = 0
  ·have hL2 : L = [] := List.eq_nil_of_length_eq_zero hL
   subst hL2
   have HF := vv (fail b u 111 w2 hS (HG.out.grown HG2.out HH.out))
   have HM2 : Hid (s.mantissa D = ([], 0, u.fail 111)) := vv (by rw [HM.out, if_pos rfl])
   clear hL hS
   go_wp2_with fail
   refine HF.out.mono ?_
   rintro e w3 ⟨rfl, hS, hG⟩
   have HS3 := vv hS
   have HG3 := vv (only_trans HG2.out hG)
   have HRow3 := vv (row_only HRow2.out hG HLt.out)
   clear hS hG
   go_wp2
   go_ret2
   rw [HM2.out]
   show MantPost b [] 0 (u.fail 111) w _ _
   exact ⟨_, rfl, HRow3.out, HS3.out, HG3.out, Nat.zero_le _, Nat.zero_le _, fun _ h => absurd h List.not_mem_nil⟩
  ·have HM2 : Hid (s.mantissa D = (L, 0, u)) := vv (by rw [HM.out, if_neg fun e => hL (by rw [e]; rfl)])
   have t1 : ((L.length : Int) == 0) = false := by rw [beq_eq_false_iff_ne]; omega
   clear hL hS
   go_wp2
   go_ret2
   rw [HM2.out]
   show MantPost b L 0 u w _ _
   exact ⟨_, rfl, HRow2.out, HS.out, HG2.out, by omega, Nat.zero_le _, HSm.out⟩
 | true =>
  obtain ⟨L2, u2, he2⟩ : ∃ L2 u2, (u.skip 1).row D = (L2, u2) := ⟨_, _, rfl⟩
  have HM : Hid (s.mantissa D = (L ++ L2, L2.length, if L.length + L2.length = 0 then u2.fail 111 else u2)) := vv (by unfold St.mantissa; rw [HE.out]; dsimp only; rw [hp, if_pos rfl, he2])
  have HPf := vv hp
  have HE2 := vv he2
  clear hp he2
  go_enter Tryz.func335, Tryz.ntmps335
  go_wp2_with fail
  refine HR.out.mono ?_
  rintro e w1 ⟨v, rfl, hrow, hsc, hgr, hle, hsm⟩
  have HRow := vv hrow
  have HGr := vv hgr
  have HSm := vv hsm
  have HHas := vv (has_t b u ⟨#[46]⟩ w1 hsc HPf.out)
  obtain ⟨A, cap, hv⟩ := row8_any hrow
  have HV := vv hv
  clear hrow hsc hgr hsm hv
  go_wp2_with fail
  refine HHas.out.mono ?_
  rintro e w2 ⟨rfl, hS, hG⟩
  have HG2 := vv (only_trans HGr.out hG)
  have HRow2 := vv (row_only HRow.out hG HLt.out)
  have HR2 := vv (row K D HK.out b (u.skip 1) w2 hS)
  rw [HE2.out] at HR2
  have HS2 := vv hS
  replace HR2 : Hid (Calls Tryz.prog 375 #[.pointer (some ⟨b, 0, none⟩), .func (.func K) #[] #[]] w2 (RowPost b L2 u2 w2)) := HR2
  clear hG hS
  go_wp2_with fail
  refine HR2.out.mono ?_
  rintro e w3 ⟨v2, rfl, hrow, hsc, hgr, hle2, hsm⟩
  have HG3 := vv (only_trans HG2.out hgr)
  have HRow3 := vv (row_only HRow2.out hgr HLt.out)
  have HQ3 := vv hrow
  have HSm2 := vv hsm
  have HSc3 := vv hsc
  have hgs := hgr.size
  have hg2 := HG2.out.size
  obtain ⟨A2, cap2, hv2⟩ := row8_any hrow
  have HV2 := vv hv2
  clear hrow hsm hgr
  have hgb := HRow3.out.lt
  have HAll : Hid (∀ d ∈ L ++ L2, d < 16) := vv (fun d h => by
   rcases List.mem_append.1 h with h | h
   ·exact HSm.out d h
   ·exact HSm2.out d h)
  rw [HV2.out, HV.out]
  rw [HV.out] at HRow3 hgb
  rw [HV2.out] at HQ3
  by_cases hL : L.length + L2.length = 0
  ·have hL1 : L = [] := List.eq_nil_of_length_eq_zero (by omega)
   have hL2 : L2 = [] := List.eq_nil_of_length_eq_zero (by omega)
   subst hL1 hL2
   have HF := vv (fail b u2 111 w3 hsc (HG.out.grown HG3.out HH.out))
   have HM2 : Hid (s.mantissa D = ([], 0, u2.fail 111)) := vv (by rw [HM.out]; rfl)
   clear hL hsc hgb
   go_wp2_with fail
   refine HF.out.mono ?_
   rintro e w4 ⟨rfl, hS, hG⟩
   have HS4 := vv hS
   have hgs4 := hG.size
   have HG4 := vv (only_trans HG3.out hG)
   have HRow4 := vv (row_only HRow3.out hG HLt.out)
   have HQ4 := vv (row_only HQ3.out hG (Nat.lt_of_lt_of_le HLt.out hg2))
   have hgb := HRow4.out.lt
   clear hS hG
   go_wp2_with (at_builtin; refine wpList_append_rows rfl _ _ 149 rfl w.heap.size w2.heap.size 5 i0 (.int .u8 0) 1 Tryz.underlying149 hi hz0 hz1 hz2 rfl _ 0 (u8s []) rfl HRow4.out _ 0 (u8s []) rfl HQ4.out (u8s_one []) (by decide) (by decide) (by omega) ?_)
   intro v' w5 hown hgrow
   have HS5 : Hid (ScAt w5 b (u2.fail 111)) := vv (HS4.out.grown hgrow (fun k e => by have := (hgb k e).1; have := HLt.out; omega))
   have HG5 := vv (only_grown HG4.out hgrow (fun k e => (hgb k e).1))
   have HRow5 := vv hown
   clear hown hgrow hgb
   go_wp2
   go_ret2
   rw [HM2.out]
   show MantPost b [] 0 (u2.fail 111) w _ _
   exact ⟨_, rfl, HRow5.out, HS5.out, HG5.out, Nat.zero_le _, Nat.zero_le _, fun _ h => absurd h List.not_mem_nil⟩
  ·have HM2 : Hid (s.mantissa D = (L ++ L2, L2.length, u2)) := vv (by rw [HM.out, if_neg hL])
   have t1 : ((L.length : Int) + (L2.length : Int) == 0) = false := by rw [beq_eq_false_iff_ne]; omega
   have hsum : (L.length : Int) + (L2.length : Int) <= 131072 := by omega
   clear hL hsc
   go_wp2_with (at_builtin; refine wpList_append_rows rfl _ _ 149 rfl w.heap.size w2.heap.size 5 i0 (.int .u8 0) 1 Tryz.underlying149 hi hz0 hz1 hz2 rfl _ L.length (u8s L) rfl HRow3.out _ L2.length (u8s L2) rfl HQ3.out (u8s_one L2) (by unfold maxLen; omega) (by omega) (by omega) ?_)
   intro v' w5 hown hgrow
   have HS5 : Hid (ScAt w5 b u2) := vv (HSc3.out.grown hgrow (fun k e => by have := (hgb k e).1; have := HLt.out; omega))
   have HG5 := vv (only_grown HG3.out hgrow (fun k e => (hgb k e).1))
   have HRow5 : Hid (w5.ownsRow w.heap.size 5 1 v' (L ++ L2).length (u8s (L ++ L2))) := vv (by rw [u8s_app, List.length_append]; exact hown)
   have HLe : Hid ((L ++ L2).length <= 131072) := vv (by rw [List.length_append]; omega)
   clear hown hgrow hgb
   go_wp2
   go_ret2
   rw [HM2.out]
   show MantPost b (L ++ L2) L2.length u2 w _ _
   exact ⟨_, rfl, HRow5.out, HS5.out, HG5.out, HLe.out, hle2, HAll.out⟩
theorem clip_ (x : Int) (w : World) : Calls Tryz.prog 341 #[.int .i64 x] w fun e w' => e = .returned (.int .i64 (clip x)) /\ w = w' := by
 obtain ⟨c, hc⟩ : ∃ c, max (-1073741824) (min x 1073741824) = c := ⟨_, rfl⟩
 have HC : Hid (clip x = c) := vv (by unfold clip; exact hc)
 go_enter Tryz.func341, Tryz.ntmps341
 go_wp2
 go_ret
 exact ⟨retI (by rw [HC.out]), rfl⟩
theorem expo_le : ∀ (l : List Nat) (n : Nat), n <= 68719476736 -> expo l n <= 68719476736 := by
 intro l
 induction l with
 | nil => intro n h; exact h
 | cons a l ih =>
  intro n _
  exact ih _ (Nat.min_le_right _ _)
theorem expo_snoc (l : List Nat) (d n : Nat) : expo (l ++ [d]) n = min (10 * expo l n + d) 68719476736 := by
 unfold expo; rw [List.foldl_append]; rfl
theorem take_snoc' (L : List Nat) (k : Nat) (h : k < L.length) : L.take (k + 1) = L.take k ++ [nth L k] := by
 rw [List.take_succ_eq_append_getElem h]
 unfold nth
 rw [List.getD_eq_getElem?_getD, List.getElem?_eq_getElem h]; rfl
set_option maxHeartbeats 1000000 in
theorem exponent (b : Nat) (s : St) (p : ByteArray) (w : World) (h : ScAt w b s) (hg : Bg w) (hp : p.size <= 65536) :
  Calls Tryz.prog 337 #[.pointer (some ⟨b, 0, none⟩), .string p] w (ScP b (s.exponent p.data.toList).2 (.int .i64 (s.exponent p.data.toList).1) w) := by
 have HF := vv (fold b s p w h hp)
 have HH := vv h
 have HG := vv hg
 cases hb : s.fold p.data.toList with
 | false =>
  have HE : Hid (s.exponent p.data.toList = (0, s)) := vv (by unfold St.exponent; rw [hb]; rfl)
  have HO : Hid (s.over p = s) := vv (by unfold St.over; rw [hb]; rfl)
  rw [hb, HO.out] at HF
  clear h hg hb
  go_enter Tryz.func337, Tryz.ntmps337
  go_wp2_with fail
  refine HF.out.mono ?_
  rintro e w1 ⟨rfl, hS, hG⟩
  go_wp2
  go_ret
  rw [HE.out]
  exact ⟨rfl, hS, hG⟩
 | true =>
  obtain ⟨m, u, hm⟩ : ∃ m u, (s.skip p.size).minus = (m, u) := ⟨_, _, rfl⟩
  obtain ⟨L, v, hv⟩ : ∃ L v, u.must ten = (L, v) := ⟨_, _, rfl⟩
  have HE : Hid (s.exponent p.data.toList = (if m then -(expo L 0 : Int) else (expo L 0 : Int), v)) := vv (by
   unfold St.exponent
   rw [hb, if_pos rfl]
   dsimp only
   rw [ba_len, hm]
   dsimp only
   rw [hv])
  have HO : Hid (s.over p = s.skip p.size) := vv (by unfold St.over; rw [hb]; rfl)
  rw [hb, HO.out] at HF
  have HM := vv hm
  have HV := vv hv
  clear h hg hb hm hv
  go_enter Tryz.func337, Tryz.ntmps337
  go_wp2_with fail
  refine HF.out.mono ?_
  rintro e w1 ⟨rfl, hS, hG⟩
  have HG1 := vv hG
  have HMi := vv (minus b (s.skip p.size) w1 hS)
  rw [HM.out] at HMi
  clear hS hG
  go_wp2_with fail
  refine HMi.out.mono ?_
  rintro e w2 ⟨rfl, hS, hG⟩
  have HG2 := vv (only_trans HG1.out hG)
  have HMu := vv (must 282 ten kind_ten b u w2 hS (HG.out.grown HG2.out HH.out))
  rw [HV.out] at HMu
  replace HMu : Hid (Calls Tryz.prog 376 #[.pointer (some ⟨b, 0, none⟩), .func (.func 282) #[] #[]] w2 (RowPost b L v w2)) := HMu
  clear hS hG
  go_wp2_with fail
  refine HMu.out.mono ?_
  rintro e w3 ⟨x, rfl, hrow, hsc, hgr, hle, hsm⟩
  have HRow := vv hrow
  have HSc := vv hsc
  have HG3 := vv (only_trans HG2.out hgr)
  have HSm := vv hsm
  obtain ⟨A, cap, rfl⟩ := row8_any hrow
  have hli : (L.length : Int) <= 65536 := by omega
  clear hrow hsc hgr hsm
  go_wp2
  go_loop [6, 18] (fun n i => ∃ k : Nat, k <= L.length /\ i = .int .i64 (k : Int) /\ n = .int .i64 ((expo (L.take k) 0 : Nat) : Int)) (fun _ i => L.length - (intOf i).toNat)
  case atStart => exact ⟨0, Nat.zero_le _, rfl, rfl⟩
  case round =>
   obtain ⟨k, hk, rfl, rfl⟩ := hrel
   have hel := expo_le (L.take k) 0 (by decide)
   by_cases hkl : k < L.length
   ·obtain ⟨g, cap', e, hgb⟩ := row8_slice HRow.out (by omega)
    cases e
    obtain ⟨r1, r2, r3, r4⟩ := row8_cell HRow.out hkl
    have hd16 : nth L k < 16 := HSm.out _ (by
     unfold nth
     rw [List.getD_eq_getElem?_getD, List.getElem?_eq_getElem hkl]
     exact List.getElem_mem hkl)
    have hsn := (congrArg (fun l => expo l 0) (take_snoc' L k hkl)).trans (expo_snoc _ _ _)
    try dsimp only at hsn
    obtain ⟨d, hd⟩ := yx (nth L k)
    obtain ⟨n, hn⟩ := yx (expo (L.take k) 0)
    obtain ⟨n', hn'⟩ : ∃ n', n' = expo (L.take (k + 1)) 0 := ⟨_, rfl⟩
    rw [<- hd] at r1 hd16 hsn
    rw [<- hn] at hsn hel ⊢
    rw [<- hn'] at hsn
    have hmin : min (10 * (n : Int) + (d : Int)) 68719476736 = (n' : Int) := by omega
    have HN := vv hn'
    have hni : (n : Int) <= 68719476736 := by omega
    have hdi : (d : Int) <= 15 := by omega
    have hkk : (k : Int) < (L.length : Int) := by omega
    clear hsn hd hn hn' hel hd16
    go_wp2
    go_round
    case rel => exact ⟨k + 1, by omega, by go_num, by rw [HN.out]⟩
    case measure => simp [intOf]; omega
   ·have hke : k = L.length := by omega
    subst hke
    rw [List.take_length] at hel ⊢
    obtain ⟨n, hn⟩ := yx (expo L 0)
    rw [<- hn] at hel HE ⊢
    have hni : (n : Int) <= 68719476736 := by omega
    clear hn hel
    cases m with
    | false =>
     go_wp2
     go_ret
     rw [HE.out]
     exact ⟨rfl, HSc.out, HG3.out⟩
    | true =>
     go_wp2
     go_ret
     rw [HE.out]
     exact ⟨rfl, HSc.out, HG3.out⟩
end Go.Proofs.YtddaldghlinokaaGreatDoor.Scn
