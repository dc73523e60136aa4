/- Lemmas. -/
import Derived.Test.YtddaldghlinokaaGreatDoorPartBD
import Derived.Shelf.Strings.SlTrimAscii
set_option linter.all false
namespace Go.Proofs.YtddaldghlinokaaGreatDoor.Scn
open Go Go.RowKit
theorem worth10_from (l : List UInt8) : ∀ n, n <= l.foldl (fun n b => 10 * n + (b.toNat - 48)) n := by
 induction l with
 | nil => intro n; exact Nat.le_refl _
 | cons a l ih => intro n; rw [List.foldl_cons]; exact Nat.le_trans (by omega) (ih _)
theorem parseM (l : List UInt8) : ∀ (n : Nat), (∀ c ∈ l, 48 <= c.toNat /\ c.toNat <= 57) -> n <= 18446744073709551615 ->
  Lib.parseUintM 18446744073709551615 n l = if l.foldl (fun n b => 10 * n + (b.toNat - 48)) n <= 18446744073709551615 then .ok (l.foldl (fun n b => 10 * n + (b.toNat - 48)) n) else .range := by
 induction l with
 | nil => intro n _ hn; unfold Lib.parseUintM; rw [List.foldl_nil, if_pos hn]
 | cons a l ih =>
  intro n hl hn
  have ha := hl a List.mem_cons_self
  have h2 := worth10_from l (10 * n + (a.toNat - 48))
  rw [List.foldl_cons]
  unfold Lib.parseUintM
  rw [if_pos ha]
  split
  ·rw [if_neg (by omega)]
  ·split
   ·rw [if_neg (by omega)]
   ·rw [show n * 10 + (a.toNat - 48) = 10 * n + (a.toNat - 48) from by omega]
    exact ih _ (fun c hc => hl c (List.mem_cons_of_mem _ hc)) (by omega)
theorem parseU {l : List UInt8} (h : ∀ c ∈ l, 48 <= c.toNat /\ c.toNat <= 57) (h0 : l ≠ []) :
  Lib.parseUintB 64 l = if worth10 l <= 18446744073709551615 then .ok (worth10 l) else .range := by
 unfold Lib.parseUintB
 rw [if_neg h0]
 exact parseM l 0 h (by decide)
theorem digs_at : ∀ c : Fin 256, digs.contains c.val.toUInt8 = true -> 48 <= c.val /\ c.val <= 57 := by decide +kernel
theorem figures_digits (r : ByteArray) : ∀ c ∈ figures r, 48 <= c.toNat /\ c.toNat <= 57 := by
 intro c hc
 have h1 : digs.contains c = true := by
  have : ∀ (l : List UInt8), c ∈ l.takeWhile (fun b => digs.contains b) -> digs.contains c = true := by
   intro l
   induction l with
   | nil => intro h; cases h
   | cons a l ih =>
    intro h
    rw [List.takeWhile_cons] at h
    split at h
    ·rcases List.mem_cons.1 h with h | h
     ·rw [h]; assumption
     ·exact ih h
    ·cases h
  exact this _ hc
 have h2 := digs_at ⟨c.toNat, UInt8.toNat_lt c⟩
 have e : (c.toNat.toUInt8) = c := UInt8.ofNat_toNat
 rw [e] at h2
 exact h2 h1
theorem figures_split (r : ByteArray) : figures r ++ Lib.trimLeftS r.data.toList digs = r.data.toList := List.takeWhile_append_dropWhile
theorem figures_text (r : ByteArray) : r.extract 0 (figures r).length = ⟨(figures r).toArray⟩ := by
 apply ByteArray.ext
 apply Array.ext'
 rw [piece, List.drop_zero]
 have := figures_split r
 conv => lhs; rw [<- this]
 rw [List.take_left']
 rfl
set_option maxRecDepth 100000 in
set_option maxHeartbeats 2000000 in
theorem payload (b : Nat) (s : St) (w : World) (h : ScAt w b s) (hg : Bg w) :
  Calls Tryz.prog 286 #[.pointer (some ⟨b, 0, none⟩)] w (ScP b s.payload.2 (.int .u64 ((s.payload.1 : Nat) : Int)) w) := by
 have HH := vv h
 have HG := vv hg
 cases hp : s.has [40] with
 | false =>
  have HE : Hid (s.payload = (0, s)) := vv (by unfold St.payload; rw [hp]; rfl)
  have HF := vv (has_f b s ⟨#[40]⟩ w h hp)
  clear h hg hp
  go_enter Tryz.func286, Tryz.ntmps286
  go_wp2_with fail
  refine HF.out.mono ?_
  rintro e w1 ⟨rfl, hS, hG⟩
  go_wp2
  go_ret
  rw [HE.out]
  exact ⟨rfl, hS, hG⟩
 | true =>
  have HF := vv (has_t b s ⟨#[40]⟩ w h hp)
  obtain ⟨u, hu⟩ := yx (s.skip 1)
  have HE : Hid (s.payload = if figures u.rest = [] then (0, u.fail 111) else if 2251799813685247 < worth10 (figures u.rest) then (0, u.put 115) else (worth10 (figures u.rest), if (u.skip (figures u.rest).length).has [41] then (u.skip (figures u.rest).length).skip 1 else (u.skip (figures u.rest).length).fail 113)) := vv (by
   unfold St.payload
   rw [hp, if_pos rfl, <- hu])
  rw [show s.skip (⟨#[40]⟩ : ByteArray).size = u from hu.symm] at HF
  clear h hg hp hu
  go_enter Tryz.func286, Tryz.ntmps286
  go_wp2_with fail
  refine HF.out.mono ?_
  rintro e w1 ⟨rfl, hS, hG⟩
  have HS1 := vv hS
  have HG1 := vv hG
  have c0 := hS.c0
  have hl := hS.lt
  obtain ⟨R, hR⟩ := yx (u.rest)
  obtain ⟨T, hT⟩ : ∃ T : List UInt8, T = figures R := ⟨_, rfl⟩
  obtain ⟨D, hD⟩ : ∃ D : ByteArray, D = ⟨(Lib.trimLeftS R.data.toList digs).toArray⟩ := ⟨_, rfl⟩
  have hds : T.length + D.size = R.size := by
   have := congrArg List.length (figures_split R)
   rw [List.length_append, ba_len] at this
   rw [hT, hD]
   show _ + (List.toArray _).size = _
   rw [List.size_toArray]; exact this
  obtain ⟨Tb, hTb⟩ : ∃ Tb : ByteArray, Tb = ⟨T.toArray⟩ := ⟨_, rfl⟩
  have hsl : R.extract 0 T.length = Tb := by rw [hTb, hT]; exact figures_text R
  have hTs : Tb.size = T.length := by rw [hTb]; exact List.size_toArray ..
  have hRsm : R.size <= 65536 := by have := hS.sm; rw [hR]; omega
  have HTr : Hid (∀ w, Calls Tryz.prog 342 #[.string R, .string ⟨#[48, 49, 50, 51, 52, 53, 54, 55, 56, 57]⟩] w fun e w' => e = .returned (.string D) /\ Below w.heap.size w w') := vv fun w => by
   have := Any.strings_TrimLeft_laid Tryz.lays161 (by kernel_rfl) R ⟨#[48, 49, 50, 51, 52, 53, 54, 55, 56, 57]⟩ w (by decide) (ascii_of_all (by decide))
   rw [hD]
   exact this
  rw [<- hR] at c0 HE
  rw [<- hT] at HE
  have HRe := vv hR
  have HTd : Hid (∀ c ∈ T, 48 <= c.toNat /\ c.toNat <= 57) := vv (by rw [hT]; exact figures_digits R)
  have HTb := vv (And.intro hTb hTs)
  have hti : (R.size : Int) - (D.size : Int) = (Tb.size : Int) := by omega
  have hsl2 : R.extract 0 Tb.size = Tb := by rw [hTs]; exact hsl
  have hRi : (R.size : Int) <= 65536 := by omega
  have hTi : (Tb.size : Int) <= (R.size : Int) := by omega
  clear hS hG hR hT hD hds hTb hsl hTs hRsm
  go_wp2_with fail
  refine wp_region_sch (fun w' => w'.cell? ⟨b, 0, none⟩ = some (.string R)) 17
   (.still 0 (.still 1 (.still 2 (.still 3 (.still 4 (.still 5 (.still 6 (.still 7 (.still 8 (.still 9 (.still 10 (.still 11 (.still 12 (.one 13 (.still 14 (.still 15 (.still 16 .done))))))))))))))))) (by kernel_rfl) (by kernel_rfl) (fun _ _ d _ _ h => by cases d <;> exact h) c0 (fun hS0 => ?_)
  obtain ⟨wc, hwc⟩ := yx (w1.drew)
  have HS1 : Hid (ScAt wc b u) := vv (by rw [hwc]; exact HS1.out.drew)
  have HG1 : Hid (w.grownBy wc (some b)) := vv (by rw [hwc]; exact only_drew HG1.out)
  rw [<- hwc] at hS0 ⊢
  clear hwc hl c0
  iterate 13
   refine sch_still (v := ?_) rfl (by rfl) ?_ ?_
   rotate_left
   ·intro w hSw; go_simp; with_reducible rfl
   simp only [Act.put, List.setIfInBounds_toArray, List.set_cons_zero, List.set_cons_succ]
  refine sch_one rfl (by rfl) (fun K hK => ?_)
  go_simp
  refine (HTr.out _).mono ?_
  rintro e w2 ⟨rfl, hB⟩
  have HS2 := vv (HS1.out.below hB HS1.out.lt)
  have HG2 := vv (only_trans HG1.out (only_of_below hB _))
  clear hB
  go_wp2_with fail
  refine hK.out _ _ (HRe.out ▸ HS2.out.c0) (fun hHeld => ?_)
  clear hK
  have hwr : IntKind.i64.wrap (Tb.size : Int) = (Tb.size : Int) := IntWalk.i64_in _ (by omega)
  iterate 3
   refine sch_still (v := ?_) rfl (by rfl) ?_ ?_
   rotate_left
   ·intro w hSw; go_simp; with_reducible rfl
   simp only [Act.put, List.setIfInBounds_toArray, List.set_cons_zero, List.set_cons_succ]
  refine sch_done ?_
  clear hHeld hS0
  by_cases hT0 : T = []
  ·have HE2 : Hid (s.payload = (0, u.fail 111)) := vv (by rw [HE.out, if_pos hT0])
   obtain rfl : Tb = ⟨#[]⟩ := by rw [HTb.out.1, hT0]
   have HF2 := vv (fail b u 111 w2 HS2.out (HG.out.grown HG2.out HH.out))
   clear hT0
   go_wp2_with fail
   refine HF2.out.mono ?_
   rintro e w3 ⟨rfl, hS, hG⟩
   have HS3 := vv hS
   have HG3 := vv (only_trans HG2.out hG)
   clear hS hG
   go_wp2
   go_ret
   rw [HE2.out]
   exact ⟨rfl, HS3.out, HG3.out⟩
  ·have hne := str_some (s := Tb) (by rw [HTb.out.2]; exact List.length_pos_iff.2 hT0)
   have HPU := vv (parseU HTd.out hT0)
   have hTl : Tb.data.toList = T := by rw [HTb.out.1]
   obtain ⟨n, hn⟩ := yx (worth10 T)
   rw [<- hn, <- hTl] at HPU
   rw [if_neg hT0, <- hn] at HE
   clear hn hT0 hTl
   have HBg2 := vv (HG.out.grown HG2.out HH.out)
   have HTs := vv HTb.out.2
   by_cases hr : n <= 18446744073709551615
   ·have HO := vv (Tryz.strconv_ParseUint_10_at64_ok Tb (by omega) n (HPU.out.trans (if_pos hr)) w2)
    clear hr
    by_cases hb : 2251799813685247 < n
    ·have HE2 : Hid (s.payload = (0, u.put 115)) := vv (by rw [HE.out, if_pos hb])
     have t1 : decide ((2251799813685247 : Int) < (n : Int)) = true := decide_eq_true (by omega)
     have k2 := HS2.out.c2
     have kf := HS2.out.fz 2
     clear hb
     go_wp2_with fail
     refine HO.out.mono ?_
     rintro e w3 ⟨rfl, hw⟩
     have hB : Below w2.heap.size w2 w3 := by
      rcases hw with rfl | rfl
      ·exact Below.refl _ _
      ·exact Lib.bytesWorld_below _ _ _
     have HS3 := vv (HS2.out.below hB HS2.out.lt)
     have HG3 := vv (only_trans HG2.out (only_of_below hB _))
     have k2 := HS3.out.c2
     have kf := HS3.out.fz 2
     have kl := HS3.out.lt
     have HP := vv (And.intro (HS3.out.put 115) (only_trans HG3.out (put_grown (.int .i64 115))))
     clear hB hw
     go_wp2
     go_ret
     rw [HE2.out]
     exact ⟨rfl, HP.out.1, HP.out.2⟩
    ·obtain ⟨v, hv⟩ := yx (u.skip T.length)
     have HE2 : Hid (s.payload = (n, if v.has [41] then v.skip 1 else v.fail 113)) := vv (by rw [HE.out, if_neg hb, hv])
     have t1 : decide ((2251799813685247 : Int) < (n : Int)) = false := decide_eq_false (by omega)
     have HSk := vv fun w h => skip b u T.length w h (by rw [<- HTs.out, <- HRe.out]; omega)
     rw [<- hv, <- HTs.out] at HSk
     clear hb hv
     go_wp2_with fail
     refine HO.out.mono ?_
     rintro e w3 ⟨rfl, hw⟩
     have hB : Below w2.heap.size w2 w3 := by
      rcases hw with rfl | rfl
      ·exact Below.refl _ _
      ·exact Lib.bytesWorld_below _ _ _
     have HS3 := vv (HS2.out.below hB HS2.out.lt)
     have HG3 := vv (only_trans HG2.out (only_of_below hB _))
     clear hB hw
     go_wp2_with fail
     refine (HSk.out _ HS3.out).mono ?_
     rintro e w4 ⟨rfl, hS, hG⟩
     have HS4 := vv hS
     have HG4 := vv (only_trans HG3.out hG)
     clear hG
     cases hp : v.has [41] with
     | true =>
      have HF := vv (has_t b v ⟨#[41]⟩ w4 hS hp)
      have HE3 : Hid (s.payload = (n, v.skip 1)) := vv (by rw [HE2.out, hp]; rfl)
      clear hS hp
      go_wp2_with fail
      refine HF.out.mono ?_
      rintro e w5 ⟨rfl, hS, hG⟩
      go_wp2
      go_ret
      rw [HE3.out]
      exact ⟨rfl, hS, only_trans HG4.out hG⟩
     | false =>
      have HF := vv (has_f b v ⟨#[41]⟩ w4 hS hp)
      have HE3 : Hid (s.payload = (n, v.fail 113)) := vv (by rw [HE2.out, hp]; rfl)
      clear hS hp
      go_wp2_with fail
      refine HF.out.mono ?_
      rintro e w5 ⟨rfl, hS, hG⟩
      have HG5 := vv (only_trans HG4.out hG)
      have HFa := vv (fail b v 113 w5 hS (HG.out.grown HG5.out HH.out))
      clear hS hG
      go_wp2_with fail
      refine HFa.out.mono ?_
      rintro e w6 ⟨rfl, hS, hG⟩
      go_wp2
      go_ret
      rw [HE3.out]
      exact ⟨rfl, hS, only_trans HG5.out hG⟩
   ·have HE2 : Hid (s.payload = (0, u.put 115)) := vv (by rw [HE.out, if_pos (by omega)])
    obtain ⟨te, pe, her⟩ := HBg2.out.er
    have HO := vv (Tryz.strconv_ParseUint_10_at64_range Tb (by omega) (HPU.out.trans (if_neg hr)) _ w2 her (.inr ⟨te, pe, rfl⟩))
    clear hr her
    go_wp2_with fail
    refine HO.out.mono ?_
    rintro e w3 ⟨N, rfl, _, _, hB⟩
    have HS3 := vv (HS2.out.below hB HS2.out.lt)
    have HG3 := vv (only_trans HG2.out (only_of_below hB _))
    have k2 := HS3.out.c2
    have kf := HS3.out.fz 2
    have kl := HS3.out.lt
    have HP := vv (And.intro (HS3.out.put 115) (only_trans HG3.out (put_grown (.int .i64 115))))
    clear hB
    go_wp2
    go_ret
    rw [HE2.out]
    exact ⟨rfl, HP.out.1, HP.out.2⟩
end Go.Proofs.YtddaldghlinokaaGreatDoor.Scn
namespace Go.Proofs.YtddaldghlinokaaGreatDoor.Scn
open Go Go.RowKit R5
theorem over_t {s : St} {p : ByteArray} (h : s.fold p.data.toList = true) : s.over p = s.skip p.size := by unfold St.over; rw [h]; rfl
theorem over_f {s : St} {p : ByteArray} (h : s.fold p.data.toList = false) : s.over p = s := by unfold St.over; rw [h]; rfl
theorem fold_t (b : Nat) (s : St) (p : ByteArray) (w : World) (h : ScAt w b s) (hp : p.size <= 65536) (hb : s.fold p.data.toList = true) :
  Calls Tryz.prog 283 #[.pointer (some ⟨b, 0, none⟩), .string p] w (ScP b (s.skip p.size) (.bool true) w) := by
 have := fold b s p w h hp
 rwa [over_t hb, hb] at this
theorem fold_f (b : Nat) (s : St) (p : ByteArray) (w : World) (h : ScAt w b s) (hp : p.size <= 65536) (hb : s.fold p.data.toList = false) :
  Calls Tryz.prog 283 #[.pointer (some ⟨b, 0, none⟩), .string p] w (ScP b s (.bool false) w) := by
 have := fold b s p w h hp
 rwa [over_f hb, hb] at this
set_option maxRecDepth 100000 in
set_option maxHeartbeats 4000000 in
theorem number (b : Nat) (s : St) (w : World) (h : ScAt w b s) (hg : Bg w) :
  Calls Tryz.prog 195 #[.pointer (some ⟨b, 0, none⟩)] w (NumP b s.number.1 s.number.2 w) := by
 have HH := vv h
 have HG := vv hg
 have HL := vv h.lt
 have HNe : Hid (b ≠ w.heap.size) := vv (by have := HL.out; omega)
 obtain ⟨neg, u, hm⟩ : ∃ neg u, s.minus = (neg, u) := ⟨_, _, rfl⟩
 have HM := vv hm
 have HMi := vv fun w h => minus b s w h
 rw [hm] at HMi
 obtain ⟨d, n, hn⟩ : ∃ d n, ten u.rest = (d, n) := ⟨_, _, rfl⟩
 have HT : Hid (∀ w, Calls Tryz.prog 282 #[.string u.rest] w fun e w' => e = .returned (.tuple #[.int .i64 (d : Int), .int .i64 (n : Int)]) /\ Below w.heap.size w w') := vv fun w => by
  have := ten_ u.rest w
  rw [hn] at this
  exact this
 have HN := vv hn
 have HP := vv fun w => pre_ u.rest ⟨#[95]⟩ w
 have HPd := vv fun w => pre_ u.rest ⟨#[46]⟩ w
 simp only [show (⟨#[95]⟩ : ByteArray).data.toList = [95] from rfl] at HP
 simp only [show (⟨#[46]⟩ : ByteArray).data.toList = [46] from rfl] at HPd
 clear h hg hm hn
 go_enter Tryz.func195, Tryz.ntmps195
 go_wp2_with fail
 obtain ⟨w0, hw0⟩ := yx (w.alloc (.cells #[.int .u8 0, .bool false, .bool false, .string ⟨#[]⟩, .int .i64 0, .bool false, .slice none 0 0, .int .i64 0, .int .u64 0] 33))
 rw [<- hw0]
 have hg0 : w.grownBy w0 (some b) := by rw [hw0]; exact only_alloc (World.grownBy.refl w _) _
 have HR0 : Hid (Blk w0 w.heap.size 33 num0) := vv (by rw [hw0]; exact Blk.made w _ num0)
 have hsc0 : ScAt w0 b s := HH.out.grown (row := none) (by rw [hw0]; exact only_alloc (World.grownBy.refl w _) _) (fun k e => by cases e)
 have HG0 := vv hg0
 have HM0 := vv (HMi.out w0 hsc0)
 clear hg0 hsc0 hw0
 refine HM0.out.mono ?_
 rintro e w1 ⟨rfl, hS, hG⟩
 have HS1 := vv hS
 have HG1 := vv (only_trans HG0.out hG)
 have HR1 := vv (HR0.out.grown hG (fun e => HNe.out (by injection e)))
 clear hS hG
 have c0 := HS1.out.c0
 have hl := HS1.out.lt
 cases hp : pre u.rest [95] with
 | true =>
  rw [hp] at HP
  have HE : Hid (s.number = (Num.none_, u.put 112)) := vv (by unfold St.number; rw [HM.out]; dsimp only; rw [hp, if_pos rfl])
  have c2 := HS1.out.c2
  have f2 := HS1.out.fz 2
  have HS2 := vv (HS1.out.put 112)
  have HG2 := vv (only_trans HG1.out (put_grown (.int .i64 112)))
  have HR2 := vv (HR1.out.grown (put_grown (b := b) (.int .i64 112)) (fun e => HNe.out (by injection e)))
  clear hp
  go_wp2_with fail
  refine (HP.out _).mono ?_
  rintro e w' ⟨rfl, rfl⟩
  go_wp2_with (with_reducible refine wpList_store_blk rfl 33 (.tmp 2) (.tmp 16) rfl w.heap.size [.int .u8 0, .bool false, .bool false, .string ⟨#[]⟩, .int .i64 0, .bool false, .slice none 0 0, .int .i64 0, .int .u64 0] rfl rfl 33 num0 HR2.out (by kernel_rfl) rfl rfl ?_)
  intro w8 hB hg8
  have HS8 := vv (HS2.out.grown hg8 (fun k e => by cases e; exact fun e => HNe.out e.symm))
  have HG8 := vv (only_grown HG2.out hg8 (fun k e => by cases e; exact Nat.le_refl _))
  have HB8 := vv hB
  clear hB hg8
  go_wp2
  rw [HE.out]
  exact bodyPost_ret (results_cell_row rfl _ _ _ _ _ _ _ rfl HB8.out Tryz.underlying33 rfl (by kernel_rfl)) rfl ⟨none, 0, 0, rfl, Rd.nil _, Fr.none_ _, HS8.out, HG8.out⟩
 | false =>
  rw [hp] at HP
  have hQ : s.number = if u.fold [48, 120] then (u.skip 2).hex neg else if 0 < n \/ pre u.rest [46] = true then u.decimal neg else if u.fold [105, 110, 102, 105, 110, 105, 116, 121] then (⟨3, neg, false, [], 0, false, 0, 0, 0⟩, u.skip 8) else if u.fold [105, 110, 102] then (⟨3, neg, false, [], 0, false, 0, 0, 0⟩, u.skip 3) else if u.fold [110, 97, 110] then (⟨4, neg, false, [], 0, false, 0, 0, (u.skip 3).payload.1⟩, (u.skip 3).payload.2) else (Num.none_, u.fail 110) := by
   unfold St.number
   rw [HM.out]
   dsimp only
   rw [hp, HN.out]
   rfl
  have HQ := vv hQ
  clear hp hQ
  go_wp2_with fail
  refine (HP.out _).mono ?_
  rintro e w' ⟨rfl, rfl⟩
  go_wp2_with fail
  refine (HT.out _).mono ?_
  rintro e w2 ⟨rfl, hB⟩
  have HS2 := vv (HS1.out.below hB HS1.out.lt)
  have HG2 := vv (only_trans HG1.out (only_of_below hB _))
  have HR2 := vv (HR1.out.below hB)
  clear hB c0 hl
  cases h1 : u.fold [48, 120] with
  | true =>
   obtain ⟨x, v, hx⟩ : ∃ x v, (u.skip 2).hex neg = (x, v) := ⟨_, _, rfl⟩
   have HE : Hid (s.number = (x, v)) := vv (by rw [HQ.out, h1, if_pos rfl, hx])
   have HF := vv (fold_t b u ⟨#[48, 120]⟩ w2 HS2.out (by decide) h1)
   have HX := vv fun w h hg => hex b (u.skip 2) neg w h hg
   rw [hx] at HX
   clear h1 hx
   go_wp2_with fail
   refine HF.out.mono ?_
   rintro e w3 ⟨rfl, hS, hG⟩
   have HS3 := vv hS
   have HG3 := vv (only_trans HG2.out hG)
   have HR3 := vv (HR2.out.grown hG (fun e => HNe.out (by injection e)))
   clear hS hG
   go_wp2_with fail
   refine (HX.out _ HS3.out (HG.out.grown HG3.out HH.out)).mono ?_
   rintro e w4 ⟨A, m, c, rfl, hRd, hFr, hS, hG⟩
   have HRd := vv hRd
   have HFR : Hid (∀ a, A = some a -> a.block ≠ w.heap.size) := vv (fun a e => by have := (hFr a e).1; have := HR3.out.lt; omega)
   have HFr : Hid (Fr w.heap.size A) := vv (hFr.mono (Nat.le_of_lt HR3.out.lt))
   clear hRd hFr
   have HS4 := vv hS
   have HG4 := vv (only_trans HG3.out hG)
   have HR4 := vv (HR3.out.grown hG (fun e => HNe.out (by injection e)))
   clear hS hG
   go_wp2_with (with_reducible refine wpList_store_blk rfl 33 (.tmp 2) (.tmp 30) rfl w.heap.size [.int .u8 (x.kind : Int), .bool x.neg, .bool x.dneg, .string ⟨x.digits.toArray⟩, .int .i64 x.exp, .bool x.hneg, .slice A m c, .int .i64 x.hexp, .int .u64 (x.payload : Int)] rfl rfl 33 num0 HR4.out (by kernel_rfl) rfl rfl ?_)
   intro w8 hB hg8
   have HS8 := vv (HS4.out.grown hg8 (fun k e => by cases e; exact fun e => HNe.out e.symm))
   have HG8 := vv (only_grown HG4.out hg8 (fun k e => by cases e; exact Nat.le_refl _))
   have HB8 := vv hB
   have HRd8 := vv (HRd.out.only hg8 HFR.out)
   clear hB hg8
   go_wp2
   rw [HE.out]
   exact bodyPost_ret (results_cell_row rfl _ _ _ _ _ _ _ rfl HB8.out Tryz.underlying33 rfl (by kernel_rfl)) rfl ⟨A, m, c, rfl, HRd8.out, HFr.out, HS8.out, HG8.out⟩
  | false =>
   have HF := vv (fold_f b u ⟨#[48, 120]⟩ w2 HS2.out (by decide) h1)
   have HQ2 := vv (show s.number = _ by rw [HQ.out, h1, if_neg (by decide)])
   clear h1
   go_wp2_with fail
   refine HF.out.mono ?_
   rintro e w3 ⟨rfl, hS, hG⟩
   have HS3 := vv hS
   have HG3 := vv (only_trans HG2.out hG)
   have HR3 := vv (HR2.out.grown hG (fun e => HNe.out (by injection e)))
   clear hS hG
   have c0 := HS3.out.c0
   have hl := HS3.out.lt
   by_cases hdec : 0 < n \/ pre u.rest [46] = true
   ·obtain ⟨x, v, hx⟩ : ∃ x v, u.decimal neg = (x, v) := ⟨_, _, rfl⟩
    have HE : Hid (s.number = (x, v)) := vv (by rw [HQ2.out, if_pos hdec, hx])
    have HX := vv fun w h hg => decimal b u neg w h hg
    rw [hx] at HX
    clear hx
    have hc : (decide ((0 : Int) < (n : Int)) = true) \/ (decide ((0 : Int) < (n : Int)) = false /\ pre u.rest [46] = true) := by
     rcases Nat.eq_zero_or_pos n with e | e
     ·exact .inr ⟨decide_eq_false (by omega), hdec.resolve_left (by omega)⟩
     ·exact .inl (decide_eq_true (by omega))
    clear hdec
    rcases hc with hn1 | ⟨hn1, hp2⟩
    case' inl =>
     have hn2 : (0 : Int) < (n : Int) := of_decide_eq_true hn1
     clear hn1
     go_wp2_with fail
    case' inr =>
     have hn2 : ¬ (0 : Int) < (n : Int) := of_decide_eq_false hn1
     rw [hp2] at HPd
     have hn3 : n = 0 := by omega
     subst hn3
     clear hn1 hn2 hp2
     go_wp2_with fail
     refine (HPd.out _).mono ?_
     rintro e w' ⟨rfl, rfl⟩
     go_wp2_with fail
    all_goals
     refine (HX.out _ HS3.out (HG.out.grown HG3.out HH.out)).mono ?_
     rintro e w4 ⟨A, m, c, rfl, hRd, hFr, hS, hG⟩
     have HRd := vv hRd
     have HFR : Hid (∀ a, A = some a -> a.block ≠ w.heap.size) := vv (fun a e => by have := (hFr a e).1; have := HR3.out.lt; omega)
     have HFr : Hid (Fr w.heap.size A) := vv (hFr.mono (Nat.le_of_lt HR3.out.lt))
     clear hRd hFr
     have HS4 := vv hS
     have HG4 := vv (only_trans HG3.out hG)
     have HR4 := vv (HR3.out.grown hG (fun e => HNe.out (by injection e)))
     clear hS hG
     go_wp2_with (with_reducible refine wpList_store_blk rfl 33 (.tmp 2) (.tmp 43) rfl w.heap.size [.int .u8 (x.kind : Int), .bool x.neg, .bool x.dneg, .string ⟨x.digits.toArray⟩, .int .i64 x.exp, .bool x.hneg, .slice A m c, .int .i64 x.hexp, .int .u64 (x.payload : Int)] rfl rfl 33 num0 HR4.out (by kernel_rfl) rfl rfl ?_)
     intro w8 hB hg8
     have HS8 := vv (HS4.out.grown hg8 (fun k e => by cases e; exact fun e => HNe.out e.symm))
     have HG8 := vv (only_grown HG4.out hg8 (fun k e => by cases e; exact Nat.le_refl _))
     have HB8 := vv hB
     have HRd8 := vv (HRd.out.only hg8 HFR.out)
     clear hB hg8
     go_wp2
     rw [HE.out]
     exact bodyPost_ret (results_cell_row rfl _ _ _ _ _ _ _ rfl HB8.out Tryz.underlying33 rfl (by kernel_rfl)) rfl ⟨A, m, c, rfl, HRd8.out, HFr.out, HS8.out, HG8.out⟩
   ·have hn0 : n = 0 := by omega
    subst hn0
    have hp2 : pre u.rest [46] = false := by
     cases h : pre u.rest [46] with
     | false => rfl
     | true => exact absurd (.inr h) hdec
    rw [hp2] at HPd
    have HQ3 := vv (show s.number = _ by rw [HQ2.out, if_neg hdec])
    clear hdec hp2
    go_wp2_with fail
    refine (HPd.out _).mono ?_
    rintro e w' ⟨rfl, rfl⟩
    clear c0 hl
    cases h2 : u.fold [105, 110, 102, 105, 110, 105, 116, 121] with
    | true =>
     have HF := vv (fold_t b u ⟨#[105, 110, 102, 105, 110, 105, 116, 121]⟩ w3 HS3.out (by decide) h2)
     have HE := vv (show s.number = _ by rw [HQ3.out, h2, if_pos rfl])
     clear h2
     go_wp2_with fail
     refine HF.out.mono ?_
     rintro e w4 ⟨rfl, hS, hG⟩
     have HS4 := vv hS
     have HG4 := vv (only_trans HG3.out hG)
     have HR4 := vv (HR3.out.grown hG (fun e => HNe.out (by injection e)))
     clear hS hG
     go_wp2_with (with_reducible refine wpList_store_blk rfl 33 (.tmp 2) (.tmp 52) rfl w.heap.size [.int .u8 3, .bool neg, .bool false, .string ⟨#[]⟩, .int .i64 0, .bool false, .slice none 0 0, .int .i64 0, .int .u64 0] rfl rfl 33 num0 HR4.out (by kernel_rfl) rfl rfl ?_)
     intro w8 hB hg8
     have HS8 := vv (HS4.out.grown hg8 (fun k e => by cases e; exact fun e => HNe.out e.symm))
     have HG8 := vv (only_grown HG4.out hg8 (fun k e => by cases e; exact Nat.le_refl _))
     have HB8 := vv hB
     clear hB hg8
     go_wp2
     rw [HE.out]
     exact bodyPost_ret (results_cell_row rfl _ _ _ _ _ _ _ rfl HB8.out Tryz.underlying33 rfl (by kernel_rfl)) rfl ⟨none, 0, 0, rfl, Rd.nil _, Fr.none_ _, HS8.out, HG8.out⟩
    | false =>
     have HF := vv (fold_f b u ⟨#[105, 110, 102, 105, 110, 105, 116, 121]⟩ w3 HS3.out (by decide) h2)
     have HQ4 := vv (show s.number = _ by rw [HQ3.out, h2, if_neg (by decide)])
     clear h2
     go_wp2_with fail
     refine HF.out.mono ?_
     rintro e w4 ⟨rfl, hS, hG⟩
     have HS4 := vv hS
     have HG4 := vv (only_trans HG3.out hG)
     have HR4 := vv (HR3.out.grown hG (fun e => HNe.out (by injection e)))
     clear hS hG
     cases h3 : u.fold [105, 110, 102] with
     | true =>
      have HF := vv (fold_t b u ⟨#[105, 110, 102]⟩ w4 HS4.out (by decide) h3)
      have HE := vv (show s.number = _ by rw [HQ4.out, h3, if_pos rfl])
      clear h3
      go_wp2_with fail
      refine HF.out.mono ?_
      rintro e w5 ⟨rfl, hS, hG⟩
      have HS5 := vv hS
      have HG5 := vv (only_trans HG4.out hG)
      have HR5 := vv (HR4.out.grown hG (fun e => HNe.out (by injection e)))
      clear hS hG
      go_wp2_with (with_reducible refine wpList_store_blk rfl 33 (.tmp 2) (.tmp 52) rfl w.heap.size [.int .u8 3, .bool neg, .bool false, .string ⟨#[]⟩, .int .i64 0, .bool false, .slice none 0 0, .int .i64 0, .int .u64 0] rfl rfl 33 num0 HR5.out (by kernel_rfl) rfl rfl ?_)
      intro w8 hB hg8
      have HS8 := vv (HS5.out.grown hg8 (fun k e => by cases e; exact fun e => HNe.out e.symm))
      have HG8 := vv (only_grown HG5.out hg8 (fun k e => by cases e; exact Nat.le_refl _))
      have HB8 := vv hB
      clear hB hg8
      go_wp2
      rw [HE.out]
      exact bodyPost_ret (results_cell_row rfl _ _ _ _ _ _ _ rfl HB8.out Tryz.underlying33 rfl (by kernel_rfl)) rfl ⟨none, 0, 0, rfl, Rd.nil _, Fr.none_ _, HS8.out, HG8.out⟩
     | false =>
      have HF := vv (fold_f b u ⟨#[105, 110, 102]⟩ w4 HS4.out (by decide) h3)
      have HQ5 := vv (show s.number = _ by rw [HQ4.out, h3, if_neg (by decide)])
      clear h3
      go_wp2_with fail
      refine HF.out.mono ?_
      rintro e w5 ⟨rfl, hS, hG⟩
      have HS5 := vv hS
      have HG5 := vv (only_trans HG4.out hG)
      have HR5 := vv (HR4.out.grown hG (fun e => HNe.out (by injection e)))
      clear hS hG
      cases h4 : u.fold [110, 97, 110] with
      | true =>
       obtain ⟨pl, v, hx⟩ : ∃ pl v, (u.skip 3).payload = (pl, v) := ⟨_, _, rfl⟩
       have HF := vv (fold_t b u ⟨#[110, 97, 110]⟩ w5 HS5.out (by decide) h4)
       have HE : Hid (s.number = (⟨4, neg, false, [], 0, false, 0, 0, pl⟩, v)) := vv (by rw [HQ5.out, h4, if_pos rfl, hx])
       have HX := vv fun w h hg => payload b (u.skip 3) w h hg
       rw [hx] at HX
       clear h4 hx
       go_wp2_with fail
       refine HF.out.mono ?_
       rintro e w6 ⟨rfl, hS, hG⟩
       have HS6 := vv hS
       have HG6 := vv (only_trans HG5.out hG)
       have HR6 := vv (HR5.out.grown hG (fun e => HNe.out (by injection e)))
       clear hS hG
       go_wp2_with fail
       refine (HX.out _ HS6.out (HG.out.grown HG6.out HH.out)).mono ?_
       rintro e w7 ⟨rfl, hS, hG⟩
       have HS7 := vv hS
       have HG7 := vv (only_trans HG6.out hG)
       have HR7 := vv (HR6.out.grown hG (fun e => HNe.out (by injection e)))
       clear hS hG
       go_wp2_with (with_reducible refine wpList_store_blk rfl 33 (.tmp 2) (.tmp 59) rfl w.heap.size [.int .u8 4, .bool neg, .bool false, .string ⟨#[]⟩, .int .i64 0, .bool false, .slice none 0 0, .int .i64 0, .int .u64 (pl : Int)] rfl rfl 33 num0 HR7.out (by kernel_rfl) rfl rfl ?_)
       intro w8 hB hg8
       have HS8 := vv (HS7.out.grown hg8 (fun k e => by cases e; exact fun e => HNe.out e.symm))
       have HG8 := vv (only_grown HG7.out hg8 (fun k e => by cases e; exact Nat.le_refl _))
       have HB8 := vv hB
       clear hB hg8
       go_wp2
       rw [HE.out]
       exact bodyPost_ret (results_cell_row rfl _ _ _ _ _ _ _ rfl HB8.out Tryz.underlying33 rfl (by kernel_rfl)) rfl ⟨none, 0, 0, rfl, Rd.nil _, Fr.none_ _, HS8.out, HG8.out⟩
      | false =>
       have HF := vv (fold_f b u ⟨#[110, 97, 110]⟩ w5 HS5.out (by decide) h4)
       have HE := vv (show s.number = _ by rw [HQ5.out, h4, if_neg (by decide)])
       clear h4
       go_wp2_with fail
       refine HF.out.mono ?_
       rintro e w6 ⟨rfl, hS, hG⟩
       have HS6 := vv hS
       have HG6 := vv (only_trans HG5.out hG)
       have HR6 := vv (HR5.out.grown hG (fun e => HNe.out (by injection e)))
       clear hS hG
       go_wp2_with fail
       refine (fail b u 110 _ HS6.out (HG.out.grown HG6.out HH.out)).mono ?_
       rintro e w7 ⟨rfl, hS, hG⟩
       have HS7 := vv hS
       have HG7 := vv (only_trans HG6.out hG)
       have HR7 := vv (HR6.out.grown hG (fun e => HNe.out (by injection e)))
       clear hS hG
       go_wp2_with (with_reducible refine wpList_store_blk rfl 33 (.tmp 2) (.tmp 62) rfl w.heap.size [.int .u8 0, .bool false, .bool false, .string ⟨#[]⟩, .int .i64 0, .bool false, .slice none 0 0, .int .i64 0, .int .u64 0] rfl rfl 33 num0 HR7.out (by kernel_rfl) rfl rfl ?_)
       intro w8 hB hg8
       have HS8 := vv (HS7.out.grown hg8 (fun k e => by cases e; exact fun e => HNe.out e.symm))
       have HG8 := vv (only_grown HG7.out hg8 (fun k e => by cases e; exact Nat.le_refl _))
       have HB8 := vv hB
       clear hB hg8
       go_wp2
       rw [HE.out]
       exact bodyPost_ret (results_cell_row rfl _ _ _ _ _ _ _ rfl HB8.out Tryz.underlying33 rfl (by kernel_rfl)) rfl ⟨none, 0, 0, rfl, Rd.nil _, Fr.none_ _, HS8.out, HG8.out⟩
def ReadOk (x : Num) (w : World) (e : Ending) (w' : World) : Prop :=
 ∃ A m c, e = .returned (.tuple #[numV x A m c, .nilIface]) /\ Rd w' A m c (toL x.mant) /\ Fr w.heap.size A /\ Below w.heap.size w w'
def ReadBad (code pos : Nat) (w : World) (e : Ending) (w' : World) : Prop :=
 ∃ g, e = .returned (.tuple #[numV Num.none_ none 0 0, .iface 235 (.pointer (some ⟨g, 0, none⟩))]) /\ w.heap.size <= g /\ Blk w' g 237 [.int .i64 (code : Int), .int .i64 (pos : Int)] /\ Below w.heap.size w w'
def ReadP (r : Num × Nat × Nat) (w : World) (e : Ending) (w' : World) : Prop := (r.2.1 = 0 /\ ReadOk r.1 w e w') \/ (r.2.1 ≠ 0 /\ ReadBad r.2.1 r.2.2 w e w')
theorem fail_code {s : St} {c : Nat} (h : s.code = 0) (hc : c ≠ 0) : (s.fail c).code ≠ 0 := by
 unfold St.fail
 rw [if_pos h]
 split
 ·show (114 : Nat) ≠ 0; decide
 ·exact hc
theorem wp_store_blk {P : Program} {o : Oper} {a : Act} {w : World} {K : Act -> World -> Prop} {Q : Exit -> Act -> World -> Prop} (ty : TypeId) (x y : Operand) (ho : o.op = .store ty x y)
  (g : Nat) (cells : List Value) (hx : a.eval x = .pointer (some ⟨g, 0, none⟩)) (hy : a.eval y = .agg cells.toArray)
  (t : TypeId) (old : List Value) (hg : Blk w g t old) (hi : (P.info? ty).map (·.size) = some cells.length)
  (hold : old.length = cells.length) (h1 : cells.all (·.oneCell') = true)
  (h : ∀ w', Blk w' g t cells -> w.grownBy w' (some g) -> K (a.put o.dst undef) w') : o.wp P a w K Q := by
 refine wp_store_row ty x y ho g cells.toArray hx hy t old.toArray hg (by simpa using hi) (by simpa using hold) (by simpa using h1) (h _ (setRow_heap w g _ _ t _ hg) ⟨rfl, rfl, rfl, by simp [World.setRow], fun i hi hne => ?_⟩)
 unfold World.setRow
 rw [Array.getElem?_modify, if_neg (fun e => hne (by rw [e]))]
set_option maxRecDepth 100000 in
set_option maxHeartbeats 4000000 in
theorem Read (s : ByteArray) (w : World) (hg : Bg w) : Calls Tryz.prog 89 #[.string s] w (ReadP (read s) w) := by
 have HG := vv hg
 obtain ⟨w0, hw0⟩ := yx (w.alloc (.cells #[.int .u8 0, .bool false, .bool false, .string ⟨#[]⟩, .int .i64 0, .bool false, .slice none 0 0, .int .i64 0, .int .u64 0] 33))
 have hb0 : Below w.heap.size w w0 := by rw [hw0]; exact (Below.refl _ _).alloc (Nat.le_refl _) _
 have HR0 : Hid (Blk w0 w.heap.size 33 num0) := vv (by rw [hw0]; exact Blk.made w _ num0)
 have HBs : Hid (w0.heap.size = w.heap.size + 1) := vv (by rw [hw0]; simp)
 have HB0 := vv hb0
 have HW0 := vv hw0
 clear hb0 hw0 hg
 by_cases hs : 65536 < s.size
 ·have HE : Hid (read s = (Num.none_, 3, 0)) := vv (by unfold read; rw [if_pos hs])
  have hsi : (65536 : Int) < (s.size : Int) := by omega
  clear hs
  go_enter Tryz.func89, Tryz.ntmps89
  go_wp2
  rw [HE.out]
  exact bodyPost_ret (v := .tuple #[numV Num.none_ none 0 0, .iface 235 (.pointer (some ⟨w.heap.size + 1, 0, none⟩))]) (by simp [results, Tryz.results89, go_sem, numV, Num.none_]) rfl (.inr ⟨by decide, w.heap.size + 1, rfl, Nat.le_succ _, by
   have := Blk.made (w.alloc (.cells #[.int .u8 0, .bool false, .bool false, .string ⟨#[]⟩, .int .i64 0, .bool false, .slice none 0 0, .int .i64 0, .int .u64 0] 33)) 237 [.int .i64 3, .int .i64 0]
   rw [World.size_alloc] at this
   exact this, ((Below.refl _ _).alloc (Nat.le_refl _) _).alloc (by simp) _⟩)
 ·obtain ⟨x, u, hx⟩ : ∃ x u, (St.mk s 0 0).number = (x, u) := ⟨_, _, rfl⟩
  have hE : read s = if (if u.code = 0 /\ u.rest.size ≠ 0 then u.fail 113 else u).code = 0 then (x, 0, 0) else (Num.none_, (if u.code = 0 /\ u.rest.size ≠ 0 then u.fail 113 else u).code, (if u.code = 0 /\ u.rest.size ≠ 0 then u.fail 113 else u).pos) := by
   unfold read
   rw [if_neg hs, hx]
  have hsi : (s.size : Int) <= 65536 := by omega
  obtain ⟨w1, hw1⟩ := yx (w0.alloc (.cells #[.string s, .int .i64 0, .int .i64 0] 240))
  have hb1 : Below w0.heap.size w0 w1 := by rw [hw1]; exact (Below.refl _ _).alloc (Nat.le_refl _) _
  have hsc : ScAt w1 w0.heap.size ⟨s, 0, 0⟩ := by rw [hw1]; exact ScAt.made w0 s _ (by omega)
  have HB1 := vn HB0 hb1
  have HR1 := vv (HR0.out.below hb1)
  have HN := vv (number w0.heap.size ⟨s, 0, 0⟩ w1 hsc (HG.out.below HB1.out))
  rw [hx] at HN
  have HW1 := vv hw1
  have HSc1 := vv hsc
  have HE := vv hE
  rw [HBs.out] at HN HSc1
  rw [HW0.out] at HW1
  clear hs hx hE hw1 hb1 hsc
  go_enter Tryz.func89, Tryz.ntmps89
  go_wp2_with fail
  rw [<- HW1.out]
  refine HN.out.mono ?_
  rintro e w2 ⟨A, m, c, he, hRd, hFr, hS, hG⟩
  rw [show numV x A m c = .agg #[.int .u8 (x.kind : Int), .bool x.neg, .bool x.dneg, .string ⟨x.digits.toArray⟩, .int .i64 x.exp, .bool x.hneg, .slice A m c, .int .i64 x.hexp, .int .u64 (x.payload : Int)] from rfl] at he
  subst he
  have HRd := vv hRd
  have HS2 := vv hS
  have HR2 := vv (HR1.out.grown hG (fun e => by injection e with e; omega))
  have HB2 := vv (only_below HB1.out hG (by have := HB1.out.size; omega) (Nat.le_succ _))
  have HFr := vv (hFr.mono (by have := HB1.out.size; omega : w.heap.size <= w1.heap.size))
  have HFR : Hid (∀ a, A = some a -> a.block ≠ w.heap.size) := vv (fun a e => by have := (hFr a e).1; have := HR1.out.lt; omega)
  have c0 := hS.c0
  have c2 := hS.c2
  have hl := hS.lt
  clear hRd hS hFr hG
  by_cases hc : u.code = 0
  ·have t0 : ((u.code : Int) == 0) = true := by rw [hc]; rfl
   by_cases hr : u.rest.size = 0
   ·have HE2 : Hid (read s = (x, 0, 0)) := vv (by
     have hif : (if u.code = 0 /\ u.rest.size ≠ 0 then u.fail 113 else u) = u := if_neg (fun h => h.2 hr)
     rw [HE.out, hif, if_pos hc])
    obtain ⟨R, hR⟩ := yx (u.rest)
    rw [<- hR] at c0 hr
    obtain rfl : R = ⟨#[]⟩ := ByteArray.ext (Array.eq_empty_of_size_eq_zero hr)
    have t1 : ((u.code : Int) != 0) = false := by rw [hc]; rfl
    clear hR hr hc
    go_wp2_with (with_reducible refine wpList_store_blk rfl 33 (.tmp 2) (.tmp 51) rfl w.heap.size [.int .u8 (x.kind : Int), .bool x.neg, .bool x.dneg, .string ⟨x.digits.toArray⟩, .int .i64 x.exp, .bool x.hneg, .slice A m c, .int .i64 x.hexp, .int .u64 (x.payload : Int)] rfl rfl 33 num0 (HR2.out.alloc _) (by kernel_rfl) rfl rfl ?_)
    intro w8 hB hg8
    have hb2 : Below w2.heap.size w2 (w2.alloc (.cells #[.int .u8 (x.kind : Int), .bool x.neg, .bool x.dneg, .string ⟨x.digits.toArray⟩, .int .i64 x.exp, .bool x.hneg, .slice A m c, .int .i64 x.hexp, .int .u64 (x.payload : Int)] 33)) := (Below.refl _ _).alloc (Nat.le_refl _) _
    have HRd8 := vv ((HRd.out.below hb2 rfl).only hg8 HFR.out)
    have HB8 := vv (only_below (HB2.out.trans (hb2.mono HB2.out.size)) hg8 (by have := HB2.out.size; simp; omega) (Nat.le_refl _))
    have HK := vv hB
    clear hB hg8 hb2
    go_wp2
    obtain ⟨k0, k1, k2, k3, k4, k5, k6, k7, k8⟩ := HK.out.num
    rw [HE2.out]
    exact bodyPost_ret (v := .tuple #[numV x A m c, .nilIface]) (by simp [results, Tryz.results89, go_sem, k0, k1, k2, k3, k4, k5, k6, k7, k8, numV]) rfl (.inl ⟨rfl, A, m, c, rfl, HRd8.out, HFr.out, HB8.out⟩)
   ·obtain ⟨v, hv⟩ := yx (u.fail 113)
    have hvc : v.code ≠ 0 := by rw [hv]; exact fail_code hc (by decide)
    have HE2 : Hid (read s = (Num.none_, v.code, v.pos)) := vv (by
     have hif : (if u.code = 0 /\ u.rest.size ≠ 0 then u.fail 113 else u) = v := by rw [if_pos ⟨hc, hr⟩, hv]
     rw [HE.out, hif, if_neg hvc])
    have HC := vv hvc
    obtain ⟨R, hR⟩ := yx (u.rest)
    rw [<- hR] at c0 hr
    have hne := str_some (s := R) (by omega)
    obtain ⟨w3, hw3⟩ := yx (w2.alloc (.cells #[.int .u8 (x.kind : Int), .bool x.neg, .bool x.dneg, .string ⟨x.digits.toArray⟩, .int .i64 x.exp, .bool x.hneg, .slice A m c, .int .i64 x.hexp, .int .u64 (x.payload : Int)] 33))
    have hb3 : Below w2.heap.size w2 w3 := by rw [hw3]; exact (Below.refl _ _).alloc (Nat.le_refl _) _
    have HR3 := vv (HR2.out.below hb3)
    have HB3 := vn HB2 hb3
    have HF := vv (fail (w.heap.size + 1) u 113 w3 (HS2.out.below hb3 HS2.out.lt) (HG.out.below HB3.out))
    rw [<- hv] at HF
    have HW3 := vv hw3
    clear hR hr hc hv hvc hw3 hb3
    go_wp2_with fail
    rw [<- HW3.out]
    refine HF.out.mono ?_
    rintro e w4 ⟨rfl, hS, hG⟩
    have HS4 := vv hS
    have HR4 := vv (HR3.out.grown hG (fun e => by injection e with e; omega))
    have HB4 := vv (only_below HB3.out hG (by have := HB3.out.size; omega) (Nat.le_succ _))
    clear hS hG
    have hcode : ((v.code : Int) != 0) = true := by rw [bne_iff_ne]; have := HC.out; omega
    have k1 := HS4.out.c1
    have k2 := HS4.out.c2
    have kl := HS4.out.lt
    go_wp2_with fail
    refine wp_region_sch (fun w' => w'.cell? ⟨w.heap.size + 1, 1, none⟩ = some (.int .i64 (v.pos : Int)) /\ w'.cell? ⟨w.heap.size + 1, 2, none⟩ = some (.int .i64 (v.code : Int))) 14
     (.still 0 (.still 1 (.still 2 (.still 3 (.still 4 (.still 5 (.still 6 (.still 7 (.still 8 (.still 9 (.still 10 (.two 11 (.still 12 (.one 13 .done)) 13 (.one 11 (.still 12 .done)))))))))))))) (by kernel_rfl) (by kernel_rfl) (fun _ _ d _ _ h => by cases d <;> exact h) ⟨k1, k2⟩ (fun hS0 => ?_)
    obtain ⟨wd, hwd⟩ := yx (World.drew w4)
    have HBd : Hid (Below w.heap.size w wd) := vv (by rw [hwd]; exact below_drew HB4.out)
    have HRz : Hid (Blk wd w.heap.size 33 num0) := vv (by rw [hwd]; exact HR4.out)
    have HLt : Hid (w.heap.size + 1 < wd.heap.size) := vv (by rw [hwd]; exact kl)
    have HS0 : Hid (wd.cell? ⟨w.heap.size + 1, 1, none⟩ = some (.int .i64 (v.pos : Int)) /\ wd.cell? ⟨w.heap.size + 1, 2, none⟩ = some (.int .i64 (v.code : Int))) := vv (by rw [hwd]; exact ⟨k1, k2⟩)
    rw [<- hwd] at hS0 ⊢
    clear hwd k1 k2 kl
    iterate 11
     refine sch_still (v := ?_) rfl (by rfl) ?_ ?_
     rotate_left
     ·intro w hSw; go_simp; with_reducible rfl
     simp only [Act.put, List.setIfInBounds_toArray, List.set_cons_zero, List.set_cons_succ]
    refine sch_two rfl (by rfl) rfl (by rfl) (fun K hK => ?_) (fun K hK => ?_)
    ·go_simp
     have hba : Below wd.heap.size wd (wd.alloc (.cells #[.int .i64 (v.code : Int), .int .i64 (v.pos : Int)] 237)) := (Below.refl _ _).alloc (Nat.le_refl _) _
     have HM := vv (Blk.made wd 237 [.int .i64 (v.code : Int), .int .i64 (v.pos : Int)])
     obtain ⟨we, hwe⟩ := yx (wd.alloc (.cells #[.int .i64 (v.code : Int), .int .i64 (v.pos : Int)] 237))
     have HM : Hid (Blk we wd.heap.size 237 [.int .i64 (v.code : Int), .int .i64 (v.pos : Int)]) := vv (by rw [hwe]; exact HM.out)
     rw [<- hwe] at hba ⊢
     have HBa := vv hba
     clear hwe hba
     refine hK.out _ _ ⟨(HBa.out.cell (p := ⟨w.heap.size + 1, 1, none⟩) HLt.out).trans HS0.out.1, (HBa.out.cell (p := ⟨w.heap.size + 1, 2, none⟩) HLt.out).trans HS0.out.2⟩ (fun hHeld => ?_)
     clear hK hS0
     iterate 1
      refine sch_still (v := ?_) rfl (by rfl) ?_ ?_
      rotate_left
      ·intro w hSw; go_simp; with_reducible rfl
      simp only [Act.put, List.setIfInBounds_toArray, List.set_cons_zero, List.set_cons_succ]
     refine sch_one rfl (by rfl) (fun K hK => ?_)
     refine wp_store_blk 33 (.tmp 2) (.tmp 38) rfl w.heap.size [.int .u8 0, .bool false, .bool false, .string ⟨#[]⟩, .int .i64 0, .bool false, .slice none 0 0, .int .i64 0, .int .u64 0] rfl rfl 33 num0 (HRz.out.below HBa.out) (by kernel_rfl) rfl rfl (fun w8 hB hg8 => ?_)
     have HK := vv hB
     have HM8 := vv (HM.out.grown hg8 (fun e => by injection e with e; have := HLt.out; omega))
     have HB8 := vv (only_below (HBd.out.trans (HBa.out.mono HBd.out.size)) hg8 (Nat.le_trans HBd.out.size HBa.out.size) (Nat.le_refl _))
     refine hK.out _ _ ⟨(only_cell hg8 (p := ⟨w.heap.size + 1, 1, none⟩) (Nat.lt_of_lt_of_le HLt.out HBa.out.size) (by simp)).trans hHeld.1, (only_cell hg8 (p := ⟨w.heap.size + 1, 2, none⟩) (Nat.lt_of_lt_of_le HLt.out HBa.out.size) (by simp)).trans hHeld.2⟩ (fun hHeld => ?_)
     clear hK hB hg8 hHeld
     refine sch_done ?_
     go_wp2
     obtain ⟨k0, k1, k2, k3, k4, k5, k6, k7, k8⟩ := HK.out.num
     rw [HE2.out]
     exact bodyPost_ret (v := .tuple #[numV Num.none_ none 0 0, .iface 235 (.pointer (some ⟨wd.heap.size, 0, none⟩))]) (by simp [results, Tryz.results89, go_sem, k0, k1, k2, k3, k4, k5, k6, k7, k8, numV, Num.none_]) rfl (.inr ⟨HC.out, wd.heap.size, rfl, HBd.out.size, HM8.out, HB8.out⟩)
    ·refine wp_store_blk 33 (.tmp 2) (.tmp 38) rfl w.heap.size [.int .u8 0, .bool false, .bool false, .string ⟨#[]⟩, .int .i64 0, .bool false, .slice none 0 0, .int .i64 0, .int .u64 0] rfl rfl 33 num0 HRz.out (by kernel_rfl) rfl rfl (fun w8 hB hg8 => ?_)
     have HK := vv hB
     have HBd : Hid (Below w.heap.size w w8) := vv (only_below HBd.out hg8 HBd.out.size (Nat.le_refl _))
     have h1 := (only_cell hg8 (p := ⟨w.heap.size + 1, 1, none⟩) HLt.out (by simp)).trans HS0.out.1
     have h2 := (only_cell hg8 (p := ⟨w.heap.size + 1, 2, none⟩) HLt.out (by simp)).trans HS0.out.2
     have HS0 := vv (And.intro h1 h2)
     have HLt := vv (Nat.lt_of_lt_of_le HLt.out hg8.size)
     refine hK.out _ _ ⟨h1, h2⟩ (fun hHeld => ?_)
     clear hK hB hg8 hHeld h1 h2 hS0
     refine sch_one rfl (by rfl) (fun K hK => ?_)
     go_simp
     have hba : Below w8.heap.size w8 (w8.alloc (.cells #[.int .i64 (v.code : Int), .int .i64 (v.pos : Int)] 237)) := (Below.refl _ _).alloc (Nat.le_refl _) _
     have HM := vv (Blk.made w8 237 [.int .i64 (v.code : Int), .int .i64 (v.pos : Int)])
     obtain ⟨we, hwe⟩ := yx (w8.alloc (.cells #[.int .i64 (v.code : Int), .int .i64 (v.pos : Int)] 237))
     have HM : Hid (Blk we w8.heap.size 237 [.int .i64 (v.code : Int), .int .i64 (v.pos : Int)]) := vv (by rw [hwe]; exact HM.out)
     rw [<- hwe] at hba ⊢
     have HBa := vv hba
     have HK2 := vv (HK.out.below hba)
     clear hwe hba
     refine hK.out _ _ ⟨(HBa.out.cell (p := ⟨w.heap.size + 1, 1, none⟩) HLt.out).trans HS0.out.1, (HBa.out.cell (p := ⟨w.heap.size + 1, 2, none⟩) HLt.out).trans HS0.out.2⟩ (fun hHeld => ?_)
     clear hK hHeld
     iterate 1
      refine sch_still (v := ?_) rfl (by rfl) ?_ ?_
      rotate_left
      ·intro w hSw; go_simp; with_reducible rfl
      simp only [Act.put, List.setIfInBounds_toArray, List.set_cons_zero, List.set_cons_succ]
     refine sch_done ?_
     go_wp2
     obtain ⟨k0, k1, k2, k3, k4, k5, k6, k7, k8⟩ := HK2.out.num
     rw [HE2.out]
     exact bodyPost_ret (v := .tuple #[numV Num.none_ none 0 0, .iface 235 (.pointer (some ⟨w8.heap.size, 0, none⟩))]) (by simp [results, Tryz.results89, go_sem, k0, k1, k2, k3, k4, k5, k6, k7, k8, numV, Num.none_]) rfl (.inr ⟨HC.out, w8.heap.size, rfl, HBd.out.size, HM.out, HBd.out.trans (HBa.out.mono HBd.out.size)⟩)
  ·have HC := vv hc
   have HE2 : Hid (read s = (Num.none_, u.code, u.pos)) := vv (by
    have hif : (if u.code = 0 /\ u.rest.size ≠ 0 then u.fail 113 else u) = u := if_neg (fun h => hc h.1)
    rw [HE.out, hif, if_neg hc])
   have t0 : ((u.code : Int) == 0) = false := by rw [beq_eq_false_iff_ne]; omega
   obtain ⟨w3, hw3⟩ := yx (w2.alloc (.cells #[.int .u8 (x.kind : Int), .bool x.neg, .bool x.dneg, .string ⟨x.digits.toArray⟩, .int .i64 x.exp, .bool x.hneg, .slice A m c, .int .i64 x.hexp, .int .u64 (x.payload : Int)] 33))
   have hb3 : Below w2.heap.size w2 w3 := by rw [hw3]; exact (Below.refl _ _).alloc (Nat.le_refl _) _
   have HR3 := vv (HR2.out.below hb3)
   have HB3 := vn HB2 hb3
   have HS3 := vv (HS2.out.below hb3 HS2.out.lt)
   have HW3 := vv hw3
   clear hc hw3 hb3
   have hcode : ((u.code : Int) != 0) = true := by rw [bne_iff_ne]; have := HC.out; omega
   have k1 := HS3.out.c1
   have k2 := HS3.out.c2
   have kl := HS3.out.lt
   go_wp2_with fail
   rw [<- HW3.out]
   refine wp_region_sch (fun w' => w'.cell? ⟨w.heap.size + 1, 1, none⟩ = some (.int .i64 (u.pos : Int)) /\ w'.cell? ⟨w.heap.size + 1, 2, none⟩ = some (.int .i64 (u.code : Int))) 14
    (.still 0 (.still 1 (.still 2 (.still 3 (.still 4 (.still 5 (.still 6 (.still 7 (.still 8 (.still 9 (.still 10 (.two 11 (.still 12 (.one 13 .done)) 13 (.one 11 (.still 12 .done)))))))))))))) (by kernel_rfl) (by kernel_rfl) (fun _ _ d _ _ h => by cases d <;> exact h) ⟨k1, k2⟩ (fun hS0 => ?_)
   obtain ⟨wd, hwd⟩ := yx (World.drew w3)
   have HBd : Hid (Below w.heap.size w wd) := vv (by rw [hwd]; exact below_drew HB3.out)
   have HRz : Hid (Blk wd w.heap.size 33 num0) := vv (by rw [hwd]; exact HR3.out)
   have HLt : Hid (w.heap.size + 1 < wd.heap.size) := vv (by rw [hwd]; exact kl)
   have HS0 : Hid (wd.cell? ⟨w.heap.size + 1, 1, none⟩ = some (.int .i64 (u.pos : Int)) /\ wd.cell? ⟨w.heap.size + 1, 2, none⟩ = some (.int .i64 (u.code : Int))) := vv (by rw [hwd]; exact ⟨k1, k2⟩)
   rw [<- hwd] at hS0 ⊢
   clear hwd k1 k2 kl
   iterate 11
    refine sch_still (v := ?_) rfl (by rfl) ?_ ?_
    rotate_left
    ·intro w hSw; go_simp; with_reducible rfl
    simp only [Act.put, List.setIfInBounds_toArray, List.set_cons_zero, List.set_cons_succ]
   refine sch_two rfl (by rfl) rfl (by rfl) (fun K hK => ?_) (fun K hK => ?_)
   ·go_simp
    have hba : Below wd.heap.size wd (wd.alloc (.cells #[.int .i64 (u.code : Int), .int .i64 (u.pos : Int)] 237)) := (Below.refl _ _).alloc (Nat.le_refl _) _
    have HM := vv (Blk.made wd 237 [.int .i64 (u.code : Int), .int .i64 (u.pos : Int)])
    obtain ⟨we, hwe⟩ := yx (wd.alloc (.cells #[.int .i64 (u.code : Int), .int .i64 (u.pos : Int)] 237))
    have HM : Hid (Blk we wd.heap.size 237 [.int .i64 (u.code : Int), .int .i64 (u.pos : Int)]) := vv (by rw [hwe]; exact HM.out)
    rw [<- hwe] at hba ⊢
    have HBa := vv hba
    clear hwe hba
    refine hK.out _ _ ⟨(HBa.out.cell (p := ⟨w.heap.size + 1, 1, none⟩) HLt.out).trans HS0.out.1, (HBa.out.cell (p := ⟨w.heap.size + 1, 2, none⟩) HLt.out).trans HS0.out.2⟩ (fun hHeld => ?_)
    clear hK hS0
    iterate 1
     refine sch_still (v := ?_) rfl (by rfl) ?_ ?_
     rotate_left
     ·intro w hSw; go_simp; with_reducible rfl
     simp only [Act.put, List.setIfInBounds_toArray, List.set_cons_zero, List.set_cons_succ]
    refine sch_one rfl (by rfl) (fun K hK => ?_)
    refine wp_store_blk 33 (.tmp 2) (.tmp 38) rfl w.heap.size [.int .u8 0, .bool false, .bool false, .string ⟨#[]⟩, .int .i64 0, .bool false, .slice none 0 0, .int .i64 0, .int .u64 0] rfl rfl 33 num0 (HRz.out.below HBa.out) (by kernel_rfl) rfl rfl (fun w8 hB hg8 => ?_)
    have HK := vv hB
    have HM8 := vv (HM.out.grown hg8 (fun e => by injection e with e; have := HLt.out; omega))
    have HB8 := vv (only_below (HBd.out.trans (HBa.out.mono HBd.out.size)) hg8 (Nat.le_trans HBd.out.size HBa.out.size) (Nat.le_refl _))
    refine hK.out _ _ ⟨(only_cell hg8 (p := ⟨w.heap.size + 1, 1, none⟩) (Nat.lt_of_lt_of_le HLt.out HBa.out.size) (by simp)).trans hHeld.1, (only_cell hg8 (p := ⟨w.heap.size + 1, 2, none⟩) (Nat.lt_of_lt_of_le HLt.out HBa.out.size) (by simp)).trans hHeld.2⟩ (fun hHeld => ?_)
    clear hK hB hg8 hHeld
    refine sch_done ?_
    go_wp2
    obtain ⟨k0, k1, k2, k3, k4, k5, k6, k7, k8⟩ := HK.out.num
    rw [HE2.out]
    exact bodyPost_ret (v := .tuple #[numV Num.none_ none 0 0, .iface 235 (.pointer (some ⟨wd.heap.size, 0, none⟩))]) (by simp [results, Tryz.results89, go_sem, k0, k1, k2, k3, k4, k5, k6, k7, k8, numV, Num.none_]) rfl (.inr ⟨HC.out, wd.heap.size, rfl, HBd.out.size, HM8.out, HB8.out⟩)
   ·refine wp_store_blk 33 (.tmp 2) (.tmp 38) rfl w.heap.size [.int .u8 0, .bool false, .bool false, .string ⟨#[]⟩, .int .i64 0, .bool false, .slice none 0 0, .int .i64 0, .int .u64 0] rfl rfl 33 num0 HRz.out (by kernel_rfl) rfl rfl (fun w8 hB hg8 => ?_)
    have HK := vv hB
    have HBd : Hid (Below w.heap.size w w8) := vv (only_below HBd.out hg8 HBd.out.size (Nat.le_refl _))
    have h1 := (only_cell hg8 (p := ⟨w.heap.size + 1, 1, none⟩) HLt.out (by simp)).trans HS0.out.1
    have h2 := (only_cell hg8 (p := ⟨w.heap.size + 1, 2, none⟩) HLt.out (by simp)).trans HS0.out.2
    have HS0 := vv (And.intro h1 h2)
    have HLt := vv (Nat.lt_of_lt_of_le HLt.out hg8.size)
    refine hK.out _ _ ⟨h1, h2⟩ (fun hHeld => ?_)
    clear hK hB hg8 hHeld h1 h2 hS0
    refine sch_one rfl (by rfl) (fun K hK => ?_)
    go_simp
    have hba : Below w8.heap.size w8 (w8.alloc (.cells #[.int .i64 (u.code : Int), .int .i64 (u.pos : Int)] 237)) := (Below.refl _ _).alloc (Nat.le_refl _) _
    have HM := vv (Blk.made w8 237 [.int .i64 (u.code : Int), .int .i64 (u.pos : Int)])
    obtain ⟨we, hwe⟩ := yx (w8.alloc (.cells #[.int .i64 (u.code : Int), .int .i64 (u.pos : Int)] 237))
    have HM : Hid (Blk we w8.heap.size 237 [.int .i64 (u.code : Int), .int .i64 (u.pos : Int)]) := vv (by rw [hwe]; exact HM.out)
    rw [<- hwe] at hba ⊢
    have HBa := vv hba
    have HK2 := vv (HK.out.below hba)
    clear hwe hba
    refine hK.out _ _ ⟨(HBa.out.cell (p := ⟨w.heap.size + 1, 1, none⟩) HLt.out).trans HS0.out.1, (HBa.out.cell (p := ⟨w.heap.size + 1, 2, none⟩) HLt.out).trans HS0.out.2⟩ (fun hHeld => ?_)
    clear hK hHeld
    iterate 1
     refine sch_still (v := ?_) rfl (by rfl) ?_ ?_
     rotate_left
     ·intro w hSw; go_simp; with_reducible rfl
     simp only [Act.put, List.setIfInBounds_toArray, List.set_cons_zero, List.set_cons_succ]
    refine sch_done ?_
    go_wp2
    obtain ⟨k0, k1, k2, k3, k4, k5, k6, k7, k8⟩ := HK2.out.num
    rw [HE2.out]
    exact bodyPost_ret (v := .tuple #[numV Num.none_ none 0 0, .iface 235 (.pointer (some ⟨w8.heap.size, 0, none⟩))]) (by simp [results, Tryz.results89, go_sem, k0, k1, k2, k3, k4, k5, k6, k7, k8, numV, Num.none_]) rfl (.inr ⟨HC.out, w8.heap.size, rfl, HBd.out.size, HM.out, HBd.out.trans (HBa.out.mono HBd.out.size)⟩)
end Go.Proofs.YtddaldghlinokaaGreatDoor.Scn
