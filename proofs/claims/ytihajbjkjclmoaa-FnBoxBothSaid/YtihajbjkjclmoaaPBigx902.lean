/- What these functions compute, each walked once: spec_l11Box; for all arguments and worlds, under the conditions that each theorem names. -/
import Derived.Test.YtihajbjkjclmoaaSq
import Derived.Test.YtihajbjkjclmoaaPBigx901
namespace Go.Proofs.Ytihajbjkjclmoaa.PBig
open Go.RowKit Go.Proofs.YtihajbjkjclmoaaW.PrintWords Go.Proofs.YtihajbjkjclmoaaW.PrintLast Go.Proofs.YtihajbjkjclmoaaW.PrintMore
attribute [local go_sem] max2_int min2_int max_two min_two max_three min_three max_four min_four   -- for this text's walks alone
set_option linter.unusedVariables false
set_option linter.unusedSimpArgs false

/-! ### spec_l11Box: function 99 -/
def spec_l11Box.f (k : Nat) (s0_0 : List Int) (s0_1 : Int) : Option (Int × Int × Int × Int × Int) := (spec_l11Place.f k s0_0 s0_1).bind fun bt116 => ((spec_l1Rd_pick.f k s0_0 bt116.2.2 256).bind fun bt120 => ((spec_l1Rd_one.f k s0_0 bt120.2 (([0, 1, 4] : List Int))).bind fun bt125 => ((spec_l1Rd_pick.f k s0_0 bt125.2 256).bind fun bt127 => ((spec_l1Rd_one.f k s0_0 bt127.2 (([0, 1, 4] : List Int))).bind fun bt132 => (some (bt116.1, bt116.2.1, wrap64 (bt116.1 + (wrap64 (bt120.1 * bt125.1))), wrap64 (bt116.2.1 + (wrap64 (bt127.1 * bt132.1))), bt132.2))))))
theorem spec_l11Box.mono : ∀ a0 a1 k, LeO (spec_l11Box.f k a0 a1) (spec_l11Box.f (k + 1) a0 a1) := by
  intro a0 a1 k
  unfold spec_l11Box.f
  repeat' first
      | (with_reducible exact spec_l11Place.mono _ _ _)
      | (with_reducible exact spec_l1Rd_one.mono _ _ _ _)
      | (with_reducible exact spec_l1Rd_pick.mono _ _ _ _)
      | (with_reducible exact LeO.refl _)
      | (with_reducible exact LeO.none _)
      | (with_reducible refine LeO.ite ?_ ?_)
      | (with_reducible refine LeO.bind ?_ (fun _ => ?_))
def spec_l11Box.T2 : Bool × List (List Nat × List Nat) := (true, [([], []), ([], []), ([1], [1]), ([], []), ([3], [3]), ([], []), ([], []), ([5, 6, 4], [5, 6]), ([4, 7], [4, 7]), ([2, 8], [2, 8]), ([], []), ([10], [10]), ([], []), ([12, 7], [12]), ([], []), ([], []), ([14, 15, 13], [14, 15]), ([13, 16], [13, 16]), ([11, 17], [11, 17]), ([9, 18], [9, 18]), ([0, 19], [0, 19]), ([20, 16, 0, 1, 2, 3, 4, 5, 6, 7, 8, 9, 10, 11, 12, 13, 14, 15, 16, 17, 18, 19, 20], [20])])
def spec_l11Box.B2 : List Nat := [0, 0, 2, 0, 8, 0, 0, 120, 248, 510, 0, 1024, 0, 4344, 0, 0, 61688, 127224, 261368, 524286, 1048575, 2097151]
theorem spec_l11Box.tab2 : rtab .any (opsOf Try.f99 2) = spec_l11Box.T2 := by kernel_rfl
theorem spec_l11Box.bits2 : waitsOk spec_l11Box.T2.2 spec_l11Box.B2 = true := by kernel_rfl
set_option maxHeartbeats 8000000 in
set_option maxRecDepth 100000 in
theorem spec_l11Box.calls (k : Nat) (g : Nat) (s0_0 : List Int) (s0_1 : Int) (r1 : Int) (r2 : Int) (r3 : Int) (r4 : Int) (r5 : Int) (w0 w : World) (hI : IsS95 w0 w g s0_0 s0_1) (hB : Below w0.heap.size w0 w) (h : spec_l11Box.f k s0_0 s0_1 = some (r1, r2, r3, r4, r5)) :
    Calls Try.prog 99 #[.pointer (some ⟨g, 0, none⟩)] w fun e w' => e = .returned (.agg #[.int .i64 r1, .int .i64 r2, .int .i64 r3, .int .i64 r4]) ∧ IsS95 w0 w' g s0_0 r5 ∧ Below w0.heap.size w0 w' ∧ KeepBut w w' g none := by
  have hu26 := Try.underlying26
  have hu24 := Try.underlying24
  have HI0 := az hI
  have HK := az (KeepBut.refl w g none)
  have HL := az hB.size
  clear hI
  have HW0 := az hB.size
  have HB := az hB
  clear hB
  have H : ((spec_l11Place.f k s0_0 s0_1).bind fun bt116 => ((spec_l1Rd_pick.f k s0_0 bt116.2.2 256).bind fun bt120 => ((spec_l1Rd_one.f k s0_0 bt120.2 (([0, 1, 4] : List Int))).bind fun bt125 => ((spec_l1Rd_pick.f k s0_0 bt125.2 256).bind fun bt127 => ((spec_l1Rd_one.f k s0_0 bt127.2 (([0, 1, 4] : List Int))).bind fun bt132 => (some (bt116.1, bt116.2.1, wrap64 (bt116.1 + (wrap64 (bt120.1 * bt125.1))), wrap64 (bt116.2.1 + (wrap64 (bt127.1 * bt132.1))), bt132.2))))))) = some (r1, r2, r3, r4, r5) := h
  clear h
  replace H := qH H
  obtain ⟨⟨t116, t117, t118⟩, A2, H⟩ := H
  try dsimp only at H
  replace H := qH H
  obtain ⟨⟨t120, t121⟩, A3, H⟩ := H
  try dsimp only at H
  obtain ⟨y122, hy122⟩ : ∃ y_ : List Int, y_ = (([0, 1, 4] : List Int)) := ⟨_, rfl⟩
  replace H : ((spec_l1Rd_one.f k s0_0 t121 y122).bind fun bt125 => ((spec_l1Rd_pick.f k s0_0 bt125.2 256).bind fun bt127 => ((spec_l1Rd_one.f k s0_0 bt127.2 (([0, 1, 4] : List Int))).bind fun bt132 => (some (t116, t117, wrap64 (t116 + (wrap64 (t120 * bt125.1))), wrap64 (t117 + (wrap64 (bt127.1 * bt132.1))), bt132.2))))) = some (r1, r2, r3, r4, r5) := by first | (rw [hy122]; with_reducible exact H) | (have H2_ := (Option.bind_some _ _).symm.trans H; rw [hy122]; with_reducible exact H2_) | (have H2_ := (Option.bind_some _ _).symm.trans H; with_reducible exact H2_) | with_reducible exact H | (rw [hy122]; exact H) | exact H
  have Ny122 := az hy122
  clear hy122
  replace H := qH H
  obtain ⟨⟨t125, t126⟩, A4, H⟩ := H
  try dsimp only at H
  replace H := qH H
  obtain ⟨⟨t127, t128⟩, A5, H⟩ := H
  try dsimp only at H
  obtain ⟨y129, hy129⟩ : ∃ y_ : List Int, y_ = (([0, 1, 4] : List Int)) := ⟨_, rfl⟩
  replace H : ((spec_l1Rd_one.f k s0_0 t128 y129).bind fun bt132 => (some (t116, t117, wrap64 (t116 + (wrap64 (t120 * t125))), wrap64 (t117 + (wrap64 (t127 * bt132.1))), bt132.2))) = some (r1, r2, r3, r4, r5) := by first | (rw [hy129]; with_reducible exact H) | (have H2_ := (Option.bind_some _ _).symm.trans H; rw [hy129]; with_reducible exact H2_) | (have H2_ := (Option.bind_some _ _).symm.trans H; with_reducible exact H2_) | with_reducible exact H | (rw [hy129]; exact H) | exact H
  have Ny129 := az hy129
  clear hy129
  replace H := qH H
  obtain ⟨⟨t132, t133⟩, A6, H⟩ := H
  try dsimp only at H
  simp only [Option.some.injEq, Prod.mk.injEq] at H
  obtain ⟨rfl, rfl, rfl, rfl, rfl⟩ := H
  go_enter Try.func99, Try.ntmps99
  try go_wp2_with (first | ((with_reducible refine gate_dst (N := 2) rfl ?_); refine bx (N := 2) (cs := #[.int .i64 0, .int .i64 0, .int .i64 0, .int .i64 0]) (t := 26) ?_; intro gb115 hg w7 hbox hb; have BK115 := az hbox; have GW115 := az ((gK hg (qK HK) : w.heap.size ≤ gb115)); have GE115 := az ((Nat.le_trans HW0.out (gK hg (qK HK) : w.heap.size ≤ gb115) : w0.heap.size ≤ gb115)); have NB0_115 := az ((by rw [hg]; exact Nat.ne_of_lt (IsS95.lt (show IsS95 w0 _ g s0_0 s0_1 from qI HI0)) : g ≠ gb115)); have NB115_0 := az ((by rw [hg]; exact Nat.ne_of_gt (IsS95.lt (show IsS95 w0 _ g s0_0 s0_1 from qI HI0)) : gb115 ≠ g)); replace HI0 := az (IsS95.below (qI HI0) hb); replace HK := az (KeepBut.trans (qK HK) (KeepBut.of_below hb g none) (.inl rfl)); replace HB := bS HB hb; clear hb hbox hg) | ((with_reducible refine gate_callee (f := 98) rfl ?_); refine gl (some 5) Try.func98 #[.pointer (some ⟨g, 0, none⟩)] ?_; (with_reducible refine (spec_l11Place.calls k g s0_0 s0_1 t116 t117 t118 w0 _ ?side1 ?side2 A2.out).mono ?_); (case side1 => exact qI HI0); (case side2 => exact qL HB); rintro e w8 ⟨rfl, hi, hb, hk⟩; refine ⟨_, rfl, ?_⟩; replace BK115 := kKB BK115 hk NB115_0; replace HK := az (KeepBut.trans (qK HK) hk (.inl rfl)); replace HB := az hb; replace HI0 := az hi; clear hb hk hi) | ((with_reducible refine gate_dst (N := 3) rfl ?_); refine bx (N := 3) (cs := #[.int .i64 0, .int .i64 0]) (t := 24) ?_; intro gb119 hg w9 hbox hb; have BK119 := az hbox; have GW119 := az ((gK hg (qK HK) : w.heap.size ≤ gb119)); have GE119 := az ((Nat.le_trans HW0.out (gK hg (qK HK) : w.heap.size ≤ gb119) : w0.heap.size ≤ gb119)); obtain ⟨NB115_119, NB119_115⟩ := nPB BK115 hg; have NB0_119 := az ((by rw [hg]; exact Nat.ne_of_lt (IsS95.lt (show IsS95 w0 _ g s0_0 t118 from qI HI0)) : g ≠ gb119)); have NB119_0 := az ((by rw [hg]; exact Nat.ne_of_gt (IsS95.lt (show IsS95 w0 _ g s0_0 t118 from qI HI0)) : gb119 ≠ g)); replace HI0 := az (IsS95.below (qI HI0) hb); replace BK115 := kBB BK115 hb; replace HK := az (KeepBut.trans (qK HK) (KeepBut.of_below hb g none) (.inl rfl)); replace HB := bS HB hb; clear hb hbox hg; have hnb10 := NB119_115.out; have hnc10 := NB115_119.out; have hnb11 := NB119_0.out; have hnc11 := NB0_119.out; obtain ⟨hcz12_0, hcz12_1⟩ := cz2 BK119.out; have hfz12_0 := blk_frozen BK119.out 0; have hfz12_1 := blk_frozen BK119.out 1))
  obtain ⟨w13, hw_⟩ : ∃ x, x = ((w9.setCell ⟨gb119, 0, none⟩ (.int .i64 t116)).setCell ⟨gb119, 1, none⟩ (.int .i64 t117)) := ⟨_, rfl⟩
  replace BK115 : Aside0 (w13.heap[gb115]? = some (.cells #[.int .i64 0, .int .i64 0, .int .i64 0, .int .i64 0] 26 (0, 0))) := ⟨by rw [hw_]; exact qF BK115⟩
  replace BK119 : Aside0 (w13.heap[gb119]? = some (.cells #[.int .i64 t116, .int .i64 t117] 24 (0, 0))) := ⟨by rw [hw_]; exact qP BK119⟩
  replace HK : Aside0 (KeepBut w w13 g none) := ⟨by rw [hw_]; exact qK HK⟩
  replace HB : Aside0 (Below w0.heap.size w0 w13) := ⟨by rw [hw_]; exact qL HB⟩
  replace HI0 : Aside0 (IsS95 w0 w13 g s0_0 t118) := ⟨by rw [hw_]; exact qI HI0⟩
  rw [← hw_]
  clear hw_
  replace BK115 := az (blk_drew BK115.out)
  replace BK119 := az (blk_drew BK119.out)
  replace HI0 := az (IsS95.drew HI0.out)
  replace HK := az (keep_drew HK.out)
  replace HB := az (below_drew1 HB.out)
  refine start_ (n := 22) (S := fun w' => True) (ds := []) #[false, false, false, false, false, false, false, false, false, false, false, false, false, false, false, false, false, false, false, false, false, false] (by kernel_rfl) rfl rfl trivial (fun hHeld => ?_); refine with_tabW spec_l11Box.tab2 spec_l11Box.bits2 (fun HT_ HW_ => ?_)
  generalize w13.drew = w14 at BK115 BK119 HI0 HK HB hHeld ⊢
  refine pu 1 (some 7) (fl 22 2) HT_ ?_
  refine pu 3 (some 9) (fl 22 10) HT_ ?_
  refine pu 5 (some 11) (fl 22 42) HT_ ?_
  refine pu 10 (some 16) (fl 22 1066) HT_ ?_
  refine pu 12 (some 18) (fl 22 5162) HT_ ?_
  refine pu 14 (some 20) (fl 22 21546) HT_ ?_
  refine inv_at [0, 2, 4, 6, 7, 8, 9, 11, 13, 15, 16, 17, 18, 19, 20, 21] (fun a0_ b a w' => ∃ (v123 : Value) (v130 : Value), a = putSel a0_ b [(0, 6, .agg #[.int .i64 t116, .int .i64 t117]), (2, 8, .int .i64 t116), (4, 10, .int .i64 t120), (6, 12, v123), (7, 13, .int .i64 t125), (8, 14, .int .i64 (wrap64 (t120 * t125))), (9, 15, .int .i64 (wrap64 (t116 + (wrap64 (t120 * t125))))), (11, 17, .int .i64 t117), (13, 19, .int .i64 t127), (15, 21, v130), (16, 22, .int .i64 t132), (17, 23, .int .i64 (wrap64 (t127 * t132))), (18, 24, .int .i64 (wrap64 (t117 + (wrap64 (t127 * t132))))), (19, 25, .agg #[.int .i64 (wrap64 (t116 + (wrap64 (t120 * t125)))), .int .i64 (wrap64 (t117 + (wrap64 (t127 * t132))))]), (20, 26, .agg #[.int .i64 t116, .int .i64 t117, .int .i64 (wrap64 (t116 + (wrap64 (t120 * t125)))), .int .i64 (wrap64 (t117 + (wrap64 (t127 * t132))))])] ∧ (b 21 = false → w'.heap[gb115]? = some (.cells #[.int .i64 0, .int .i64 0, .int .i64 0, .int .i64 0] 26 (0, 0))) ∧ (w'.heap[gb119]? = some (.cells #[.int .i64 t116, .int .i64 t117] 24 (0, 0))) ∧ (b 4 = false → IsS95 w0 w' g s0_0 t118) ∧ (KeepBut w w' g none) ∧ (Below w0.heap.size w0 w') ∧ (b 4 = true → b 7 = false → IsS95 w0 w' g s0_0 t121) ∧ (b 6 = true → Kd.R (Kd.int .i64) 3 w' w.heap.size (fun _ => True) v123 y122) ∧ (b 7 = true → b 13 = false → IsS95 w0 w' g s0_0 t126) ∧ (b 13 = true → b 16 = false → IsS95 w0 w' g s0_0 t128) ∧ (b 15 = true → Kd.R (Kd.int .i64) 3 w' w.heap.size (fun _ => True) v130 y129) ∧ (b 16 = true → IsS95 w0 w' g s0_0 t133) ∧ (b 21 = true → w'.heap[gb115]? = some (.cells #[.int .i64 t116, .int .i64 t117, .int .i64 (wrap64 (t116 + (wrap64 (t120 * t125)))), .int .i64 (wrap64 (t117 + (wrap64 (t127 * t132))))] 26 (0, 0)))) HT_.out HW_.out (by kernel_rfl) (by kernel_rfl) ?_ ?_ ?_
  · exact ⟨.bool false, .bool false, by simp only [putSel, Bool.false_eq_true, if_false], fun _ => BK115.out, BK119.out, fun _ => HI0.out, HK.out, HB.out, fun h_ => absurd h_ (by decide), fun h_ => absurd h_ (by decide), fun h_ => absurd h_ (by decide), fun h_ => absurd h_ (by decide), fun h_ => absurd h_ (by decide), fun h_ => absurd h_ (by decide), fun h_ => absurd h_ (by decide)⟩
  · skip
    clear BK115 BK119 HB HI0 HK
    refine steps_cons ?_ ?_
    · rintro b a w' ⟨v123, v130, ha, Q_BK115, Q_BK119, Q_HI0, Q_HK, Q_HB, Q_HI0_e4, Q_HO124, Q_HI0_e7, Q_HI0_e13, Q_HO131, Q_HI0_e16, Q_BK115_e21⟩ hb_ hon hoff
      refine ⟨_, rfl, fun K hK => ?_⟩
      have e3 : a.tmps[3]? = some (.pointer (some ⟨gb119, 0, none⟩)) := by rw [ha]; exact (putSel_off rfl).trans rfl
      replace ha := az ha
      have BK115 := az (Q_BK115 (hoff 21 (by kernel_rfl)))
      have BK119 := az Q_BK119
      have HK := az Q_HK
      have HB := az Q_HB
      have hc0_ : w'.cell? ⟨gb119, 0, none⟩ = some (.int .i64 t116) := bc BK119 0
      have hc1_ : w'.cell? ⟨gb119, 1, none⟩ = some (.int .i64 t117) := bc BK119 1
      refine value_ (w1 := w') (v := .agg #[.int .i64 t116, .int .i64 t117]) (by rfl) rfl ?_ ?_
      · go_simp
        (try simp only [i64_w])
        try rfl
      refine hK.out _ _ ⟨v123, v130, (by rw [ha.out]; exact putSel_upk 0 hb_ rfl rfl rfl), Q_BK115, Q_BK119, Q_HI0, Q_HK, Q_HB, Q_HI0_e4, Q_HO124, Q_HI0_e7, Q_HI0_e13, Q_HO131, Q_HI0_e16, fun h0_ => absurd ((hoff 21 (by kernel_rfl)).symm.trans h0_) (by decide)⟩
    refine steps_cons ?_ ?_
    · rintro b a w' ⟨v123, v130, ha, Q_BK115, Q_BK119, Q_HI0, Q_HK, Q_HB, Q_HI0_e4, Q_HO124, Q_HI0_e7, Q_HI0_e13, Q_HO131, Q_HI0_e16, Q_BK115_e21⟩ hb_ hon hoff
      refine ⟨_, rfl, fun K hK => ?_⟩
      have e7 : a.tmps[7]? = some (.pointer (some ⟨gb119, 0, none⟩)) := by rw [ha]; exact (putSel_off rfl).trans rfl
      replace ha := az ha
      have BK115 := az (Q_BK115 (hoff 21 (by kernel_rfl)))
      have BK119 := az Q_BK119
      have HK := az Q_HK
      have HB := az Q_HB
      have hc0_ : w'.cell? ⟨gb119, 0, none⟩ = some (.int .i64 t116) := bc BK119 0
      have hc1_ : w'.cell? ⟨gb119, 1, none⟩ = some (.int .i64 t117) := bc BK119 1
      refine value_ (w1 := w') (v := .int .i64 t116) (by rfl) rfl ?_ ?_
      · go_simp
        (try simp only [i64_w])
        try rfl
      refine hK.out _ _ ⟨v123, v130, (by rw [ha.out]; exact putSel_upk 1 hb_ rfl rfl rfl), Q_BK115, Q_BK119, Q_HI0, Q_HK, Q_HB, Q_HI0_e4, Q_HO124, Q_HI0_e7, Q_HI0_e13, Q_HO131, Q_HI0_e16, fun h0_ => absurd ((hoff 21 (by kernel_rfl)).symm.trans h0_) (by decide)⟩
    refine steps_cons ?_ ?_
    · rintro b a w' ⟨v123, v130, ha, Q_BK115, Q_BK119, Q_HI0, Q_HK, Q_HB, Q_HI0_e4, Q_HO124, Q_HI0_e7, Q_HI0_e13, Q_HO131, Q_HI0_e16, Q_BK115_e21⟩ hb_ hon hoff
      refine ⟨_, rfl, fun K hK => ?_⟩
      have e9 : a.tmps[9]? = some (.pointer (some ⟨g, 0, none⟩)) := by rw [ha]; exact (putSel_off rfl).trans rfl
      replace ha := az ha
      have BK115 := az (Q_BK115 (hoff 21 (by kernel_rfl)))
      have BK119 := az Q_BK119
      have HI0 := az (Q_HI0 hb_)
      have HK := az Q_HK
      have HB := az Q_HB
      refine goes_ Try.func62 (by kernel_rfl) rfl #[.pointer (some ⟨g, 0, none⟩), .int .i64 256] (by rfl) rfl rfl (by first | (simp only [List.map_toArray, List.map_cons, List.map_nil, Act.eval, Array.getD_eq_getD_getElem?, Option.getD_some, e9]; done) | (simp only [List.map_toArray, List.map_cons, List.map_nil, Act.eval, Array.getD_eq_getD_getElem?, Option.getD_some, e9]; rfl)) ?_
      with_reducible refine (spec_l1Rd_pick.calls k g s0_0 t118 256 t120 t121 w0 _ ?side1 ?side2 A3.out).mono ?_
      (case side1 => exact qI HI0)
      (case side2 => exact qL HB)
      rintro e w15 ⟨rfl, hi, hb, hk⟩
      refine ⟨_, rfl, ?_⟩
      have n0_ := kKB BK115 hk NB115_0
      have n1_ := kKB BK119 hk NB119_0
      have n2_ := az (KeepBut.trans (qK HK) hk (.inl rfl))
      have n3_ := az hb
      have n4_ := az hi
      have z_HO124 := fun (h0_ : b 6 = true) => (show Kd.R (Kd.int .i64) 3 w15 w.heap.size (fun _ => True) v123 y122 from by first | exact (Kd.R_mono (Kd.R_keep (IsS95.apart (show IsS95 w0 _ g s0_0 t118 from qI HI0) (by (with_reducible repeat (first | apply Kd.R_alloc | apply Kd.R_drewN | apply Kd.R_drew)); exact (Q_HO124 h0_)) (by decide)) hk (fun _ h => h.2)) (fun _ h => h.1)) | exact Kd.R_mono (Kd.R_mono (Kd.R_keep (IsS95.apart (show IsS95 w0 _ g s0_0 t118 from qI HI0) (by (with_reducible repeat (first | apply Kd.R_alloc | apply Kd.R_drewN | apply Kd.R_drew)); exact (Q_HO124 h0_)) (by decide)) hk (fun _ h => h.2)) (fun _ h => h.1)) (fun _ h_ => by first | trivial | exact h_ | exact h_.1))
      have z_HO131 := fun (h0_ : b 15 = true) => (show Kd.R (Kd.int .i64) 3 w15 w.heap.size (fun _ => True) v130 y129 from by first | exact (Kd.R_mono (Kd.R_keep (IsS95.apart (show IsS95 w0 _ g s0_0 t118 from qI HI0) (by (with_reducible repeat (first | apply Kd.R_alloc | apply Kd.R_drewN | apply Kd.R_drew)); exact (Q_HO131 h0_)) (by decide)) hk (fun _ h => h.2)) (fun _ h => h.1)) | exact Kd.R_mono (Kd.R_mono (Kd.R_keep (IsS95.apart (show IsS95 w0 _ g s0_0 t118 from qI HI0) (by (with_reducible repeat (first | apply Kd.R_alloc | apply Kd.R_drewN | apply Kd.R_drew)); exact (Q_HO131 h0_)) (by decide)) hk (fun _ h => h.2)) (fun _ h => h.1)) (fun _ h_ => by first | trivial | exact h_ | exact h_.1))
      clear BK115
      clear BK119
      clear HK
      clear HB
      clear HI0
      have BK115 := n0_
      have BK119 := n1_
      have HK := n2_
      have HB := n3_
      have HI0 := n4_
      clear n0_ n1_ n2_ n3_ n4_
      clear hb hk hi
      refine hK.out _ _ ⟨v123, v130, (by rw [ha.out]; exact putSel_upk 2 hb_ rfl rfl rfl), fun _ => (qB BK115), (qB BK119), fun h0_ => absurd ((up_self b 4).symm.trans h0_) (by decide), (qK HK), (qL HB), fun _ _ => (qI HI0), z_HO124, fun h0_ _ => absurd ((hoff 7 (by kernel_rfl)).symm.trans h0_) (by decide), fun h0_ _ => absurd ((hoff 13 (by kernel_rfl)).symm.trans h0_) (by decide), z_HO131, fun h0_ => absurd ((hoff 16 (by kernel_rfl)).symm.trans h0_) (by decide), fun h0_ => absurd ((hoff 21 (by kernel_rfl)).symm.trans h0_) (by decide)⟩
    refine steps_cons ?_ ?_
    · rintro b a w' ⟨v123, v130, ha, Q_BK115, Q_BK119, Q_HI0, Q_HK, Q_HB, Q_HI0_e4, Q_HO124, Q_HI0_e7, Q_HI0_e13, Q_HO131, Q_HI0_e16, Q_BK115_e21⟩ hb_ hon hoff
      refine ⟨_, rfl, fun K hK => ?_⟩
      replace ha := az ha
      have BK115 := az (Q_BK115 (hoff 21 (by kernel_rfl)))
      have BK119 := az Q_BK119
      have HK := az Q_HK
      have HB := az Q_HB
      refine Kd.R_lit_step (Kd.int .i64) _ 3 ?hg (N := 12) ?hd (xs := ([0, 1, 4] : List Int)) (inner := [.int .i64 0, .int .i64 1, .int .i64 4]) (ok := fun _ => True) (okp := fun _ => True) ?hr ?hp (fun _ hk => hk) trivial (Below.refl _ _) (Nat.le_refl _) (by simp) ?_; (case hd => rfl); (case hg => rfl); (case hr => first | (go_simp; done) | (go_simp; rfl)); (case hp => exact (Reps.one (show Kd.M (Kd.int .i64) _ _ _ 0 [.int .i64 0] from rfl) (Reps.one (show Kd.M (Kd.int .i64) _ _ _ 1 [.int .i64 1] from rfl) (Reps.one (show Kd.M (Kd.int .i64) _ _ _ 4 [.int .i64 4] from rfl) (Reps.none _ _)))))
      intro v123 w15 ho16 hb hg_ hnew_
      clear hg_ hnew_
      (first | rw [← Ny122.out] at ho16 | (simp only [Int.reduceToNat] at ho16; rw [← Ny122.out] at ho16))
      have n0_ := az (Kd.R_lower ho16 (keep_size (w := w) (g := g) (row := none) (qK HK)))
      have n2_ := kBB BK115 hb
      have n3_ := kBB BK119 hb
      have n4_ := az (KeepBut.trans (qK HK) (KeepBut.of_below hb g none) (.inl rfl))
      have n5_ := bS HB hb
      have z_HI0 := fun (h0_ : b 4 = false) => (show IsS95 w0 w15 g s0_0 t118 from by first | exact (IsS95.below (by repeat (first | (with_reducible first | exact (Q_HI0 h0_) | apply IsS95.alloc | apply IsS95.drewN | apply IsS95.drew | apply IsS95.set_1 | refine IsS95.far ?_ NB0_115.out _ | refine IsS95.far ?_ NB0_119.out _) | exact (Q_HI0 h0_))) hb))
      have z_HI0_e4 := fun (h0_ : b 4 = true) (h1_ : b 7 = false) => (show IsS95 w0 w15 g s0_0 t121 from by first | exact (IsS95.below (by repeat (first | (with_reducible first | exact (Q_HI0_e4 h0_ h1_) | apply IsS95.alloc | apply IsS95.drewN | apply IsS95.drew | apply IsS95.set_1 | refine IsS95.far ?_ NB0_115.out _ | refine IsS95.far ?_ NB0_119.out _) | exact (Q_HI0_e4 h0_ h1_))) hb))
      have z_HO131 := fun (h0_ : b 15 = true) => (show Kd.R (Kd.int .i64) 3 w15 w.heap.size (fun _ => True) v130 y129 from by first | exact (Kd.R_elder' (by (with_reducible repeat (first | apply Kd.R_alloc | apply Kd.R_drewN | apply Kd.R_drew)); exact (Q_HO131 h0_)) (Kd.R_base ho16) hb) | exact Kd.R_mono (Kd.R_elder' (by (with_reducible repeat (first | apply Kd.R_alloc | apply Kd.R_drewN | apply Kd.R_drew)); exact (Q_HO131 h0_)) (Kd.R_base ho16) hb) (fun _ h_ => by first | trivial | exact h_ | exact h_.1))
      clear BK115
      clear BK119
      clear HK
      clear HB
      have HO124 := n0_
      have BK115 := n2_
      have BK119 := n3_
      have HK := n4_
      have HB := n5_
      clear n0_ n2_ n3_ n4_ n5_
      clear hb ho16
      refine hK.out _ _ ⟨v123, v130, (by rw [ha.out]; exact putSel_upk 3 hb_ rfl rfl rfl), fun _ => (qB BK115), (qB BK119), z_HI0, (qK HK), (qL HB), z_HI0_e4, fun _ => (by (with_reducible repeat (first | apply Kd.R_alloc | apply Kd.R_drewN | apply Kd.R_drew)); exact HO124.out), fun h0_ _ => absurd ((hoff 7 (by kernel_rfl)).symm.trans h0_) (by decide), fun h0_ _ => absurd ((hoff 13 (by kernel_rfl)).symm.trans h0_) (by decide), z_HO131, fun h0_ => absurd ((hoff 16 (by kernel_rfl)).symm.trans h0_) (by decide), fun h0_ => absurd ((hoff 21 (by kernel_rfl)).symm.trans h0_) (by decide)⟩
    refine steps_cons ?_ ?_
    · rintro b a w' ⟨v123, v130, ha, Q_BK115, Q_BK119, Q_HI0, Q_HK, Q_HB, Q_HI0_e4, Q_HO124, Q_HI0_e7, Q_HI0_e13, Q_HO131, Q_HI0_e16, Q_BK115_e21⟩ hb_ hon hoff
      refine ⟨_, rfl, fun K hK => ?_⟩
      have e11 : a.tmps[11]? = some (.pointer (some ⟨g, 0, none⟩)) := by rw [ha]; exact (putSel_off rfl).trans rfl
      have e12 : a.tmps[12]? = some (v123) := by rw [ha]; exact putSel_on (e := (6, 12, v123)) 3 rfl rfl (hon 6 (by kernel_rfl)) rfl
      replace ha := az ha
      have BK115 := az (Q_BK115 (hoff 21 (by kernel_rfl)))
      have BK119 := az Q_BK119
      have HK := az Q_HK
      have HB := az Q_HB
      have HI0 := az (Q_HI0_e4 (hon 4 (by kernel_rfl)) hb_)
      have HO124 := az (Q_HO124 (hon 6 (by kernel_rfl)))
      obtain ⟨Ao19, co19, eo19⟩ := Kd.R_slice HO124.out
      (first | subst eo19 | (injection eo19 with f1_ f2_ f3_; have f4_ := f1_.symm; have f5_ := f3_.symm; clear f1_ f2_ f3_; subst f4_; subst f5_))
      refine goes_ Try.func63 (by kernel_rfl) rfl #[.pointer (some ⟨g, 0, none⟩), .slice Ao19 y122.length co19] (by rfl) rfl rfl (by first | (simp only [List.map_toArray, List.map_cons, List.map_nil, Act.eval, Array.getD_eq_getD_getElem?, Option.getD_some, e11, e12]; done) | (simp only [List.map_toArray, List.map_cons, List.map_nil, Act.eval, Array.getD_eq_getD_getElem?, Option.getD_some, e11, e12]; rfl)) ?_
      with_reducible refine (spec_l1Rd_one.calls k g s0_0 t121 _ _ y122 t125 t126 w0 _ ?side1 ?side2 ?side3 ?side4 ?side5 A4.out).mono ?_
      (case side1 => exact qI HI0)
      (case side2 => exact qL HB)
      (case side3 => repeat (first | exact (Kd.R_reads' HO124.out).2.2 | (with_reducible refine Kd.C_alloc ?_ _) | (with_reducible refine Kd.C_drewN ?_ _) | (with_reducible refine Kd.C_drew ?_)))
      (case side4 => exact (Kd.R_reads' HO124.out).2.1)
      (case side5 => exact far_slice (IsS95.own_ne HI0.out HO124.out (by decide)))
      rintro e w20 ⟨rfl, hi, hb, hk⟩
      refine ⟨_, rfl, ?_⟩
      have n0_ := kKB BK115 hk NB115_0
      have n1_ := kKB BK119 hk NB119_0
      have n2_ := az (Kd.R_mono (Kd.R_keep (IsS95.apart (show IsS95 w0 _ g s0_0 t121 from qI HI0) (by (with_reducible repeat (first | apply Kd.R_alloc | apply Kd.R_drewN | apply Kd.R_drew)); exact HO124.out) (by decide)) hk (fun _ h => h.2)) (fun _ h => h.1))
      have n3_ := az (KeepBut.trans (qK HK) hk (.inl rfl))
      have n4_ := az hb
      have n5_ := az hi
      have z_HO131 := fun (h0_ : b 15 = true) => (show Kd.R (Kd.int .i64) 3 w20 w.heap.size (fun _ => True) v130 y129 from by first | exact (Kd.R_mono (Kd.R_keep (IsS95.apart (show IsS95 w0 _ g s0_0 t121 from qI HI0) (by (with_reducible repeat (first | apply Kd.R_alloc | apply Kd.R_drewN | apply Kd.R_drew)); exact (Q_HO131 h0_)) (by decide)) hk (fun _ h => h.2)) (fun _ h => h.1)) | exact Kd.R_mono (Kd.R_mono (Kd.R_keep (IsS95.apart (show IsS95 w0 _ g s0_0 t121 from qI HI0) (by (with_reducible repeat (first | apply Kd.R_alloc | apply Kd.R_drewN | apply Kd.R_drew)); exact (Q_HO131 h0_)) (by decide)) hk (fun _ h => h.2)) (fun _ h => h.1)) (fun _ h_ => by first | trivial | exact h_ | exact h_.1))
      clear BK115
      clear BK119
      clear HO124
      clear HK
      clear HB
      clear HI0
      have BK115 := n0_
      have BK119 := n1_
      have HO124 := n2_
      have HK := n3_
      have HB := n4_
      have HI0 := n5_
      clear n0_ n1_ n2_ n3_ n4_ n5_
      clear hb hk hi
      refine hK.out _ _ ⟨.slice Ao19 y122.length co19, v130, (by rw [ha.out]; exact putSel_upk 4 hb_ rfl rfl rfl), fun _ => (qB BK115), (qB BK119), fun h0_ => absurd ((hon 4 (by kernel_rfl)).symm.trans h0_) (by decide), (qK HK), (qL HB), fun _ h1_ => absurd ((up_self b 7).symm.trans h1_) (by decide), fun _ => (by (with_reducible repeat (first | apply Kd.R_alloc | apply Kd.R_drewN | apply Kd.R_drew)); exact HO124.out), fun _ _ => (qI HI0), fun h0_ _ => absurd ((hoff 13 (by kernel_rfl)).symm.trans h0_) (by decide), z_HO131, fun h0_ => absurd ((hoff 16 (by kernel_rfl)).symm.trans h0_) (by decide), fun h0_ => absurd ((hoff 21 (by kernel_rfl)).symm.trans h0_) (by decide)⟩
    refine steps_cons ?_ ?_
    · rintro b a w' ⟨v123, v130, ha, Q_BK115, Q_BK119, Q_HI0, Q_HK, Q_HB, Q_HI0_e4, Q_HO124, Q_HI0_e7, Q_HI0_e13, Q_HO131, Q_HI0_e16, Q_BK115_e21⟩ hb_ hon hoff
      refine ⟨_, rfl, fun K hK => ?_⟩
      have e10 : a.tmps[10]? = some (.int .i64 t120) := by rw [ha]; exact putSel_on (e := (4, 10, .int .i64 t120)) 2 rfl rfl (hon 4 (by kernel_rfl)) rfl
      have e13 : a.tmps[13]? = some (.int .i64 t125) := by rw [ha]; exact putSel_on (e := (7, 13, .int .i64 t125)) 4 rfl rfl (hon 7 (by kernel_rfl)) rfl
      replace ha := az ha
      have BK115 := az (Q_BK115 (hoff 21 (by kernel_rfl)))
      have BK119 := az Q_BK119
      have HK := az Q_HK
      have HB := az Q_HB
      have HO124 := az (Q_HO124 (hon 6 (by kernel_rfl)))
      refine value_ (w1 := w') (v := .int .i64 (wrap64 (t120 * t125))) (by rfl) rfl ?_ ?_
      · go_simp
        (try simp only [i64_w])
        try rfl
      refine hK.out _ _ ⟨v123, v130, (by rw [ha.out]; exact putSel_upk 5 hb_ rfl rfl rfl), Q_BK115, Q_BK119, fun h0_ => absurd ((hon 4 (by kernel_rfl)).symm.trans h0_) (by decide), Q_HK, Q_HB, fun _ h1_ => absurd ((hon 7 (by kernel_rfl)).symm.trans h1_) (by decide), Q_HO124, Q_HI0_e7, Q_HI0_e13, Q_HO131, Q_HI0_e16, fun h0_ => absurd ((hoff 21 (by kernel_rfl)).symm.trans h0_) (by decide)⟩
    refine steps_cons ?_ ?_
    · rintro b a w' ⟨v123, v130, ha, Q_BK115, Q_BK119, Q_HI0, Q_HK, Q_HB, Q_HI0_e4, Q_HO124, Q_HI0_e7, Q_HI0_e13, Q_HO131, Q_HI0_e16, Q_BK115_e21⟩ hb_ hon hoff
      refine ⟨_, rfl, fun K hK => ?_⟩
      have e8 : a.tmps[8]? = some (.int .i64 t116) := by rw [ha]; exact putSel_on (e := (2, 8, .int .i64 t116)) 1 rfl rfl (hon 2 (by kernel_rfl)) rfl
      have e14 : a.tmps[14]? = some (.int .i64 (wrap64 (t120 * t125))) := by rw [ha]; exact putSel_on (e := (8, 14, .int .i64 (wrap64 (t120 * t125)))) 5 rfl rfl (hon 8 (by kernel_rfl)) rfl
      replace ha := az ha
      have BK115 := az (Q_BK115 (hoff 21 (by kernel_rfl)))
      have BK119 := az Q_BK119
      have HK := az Q_HK
      have HB := az Q_HB
      have HO124 := az (Q_HO124 (hon 6 (by kernel_rfl)))
      refine value_ (w1 := w') (v := .int .i64 (wrap64 (t116 + (wrap64 (t120 * t125))))) (by rfl) rfl ?_ ?_
      · go_simp
        (try simp only [i64_w])
        try rfl
      refine hK.out _ _ ⟨v123, v130, (by rw [ha.out]; exact putSel_upk 6 hb_ rfl rfl rfl), Q_BK115, Q_BK119, fun h0_ => absurd ((hon 4 (by kernel_rfl)).symm.trans h0_) (by decide), Q_HK, Q_HB, fun _ h1_ => absurd ((hon 7 (by kernel_rfl)).symm.trans h1_) (by decide), Q_HO124, Q_HI0_e7, Q_HI0_e13, Q_HO131, Q_HI0_e16, fun h0_ => absurd ((hoff 21 (by kernel_rfl)).symm.trans h0_) (by decide)⟩
    refine steps_cons ?_ ?_
    · rintro b a w' ⟨v123, v130, ha, Q_BK115, Q_BK119, Q_HI0, Q_HK, Q_HB, Q_HI0_e4, Q_HO124, Q_HI0_e7, Q_HI0_e13, Q_HO131, Q_HI0_e16, Q_BK115_e21⟩ hb_ hon hoff
      refine ⟨_, rfl, fun K hK => ?_⟩
      have e16 : a.tmps[16]? = some (.pointer (some ⟨gb119, 1, none⟩)) := by rw [ha]; exact (putSel_off rfl).trans rfl
      replace ha := az ha
      have BK115 := az (Q_BK115 (hoff 21 (by kernel_rfl)))
      have BK119 := az Q_BK119
      have HK := az Q_HK
      have HB := az Q_HB
      have hc0_ : w'.cell? ⟨gb119, 0, none⟩ = some (.int .i64 t116) := bc BK119 0
      have hc1_ : w'.cell? ⟨gb119, 1, none⟩ = some (.int .i64 t117) := bc BK119 1
      refine value_ (w1 := w') (v := .int .i64 t117) (by rfl) rfl ?_ ?_
      · go_simp
        (try simp only [i64_w])
        try rfl
      refine hK.out _ _ ⟨v123, v130, (by rw [ha.out]; exact putSel_upk 7 hb_ rfl rfl rfl), Q_BK115, Q_BK119, Q_HI0, Q_HK, Q_HB, Q_HI0_e4, Q_HO124, Q_HI0_e7, Q_HI0_e13, Q_HO131, Q_HI0_e16, fun h0_ => absurd ((hoff 21 (by kernel_rfl)).symm.trans h0_) (by decide)⟩
    refine steps_cons ?_ ?_
    · rintro b a w' ⟨v123, v130, ha, Q_BK115, Q_BK119, Q_HI0, Q_HK, Q_HB, Q_HI0_e4, Q_HO124, Q_HI0_e7, Q_HI0_e13, Q_HO131, Q_HI0_e16, Q_BK115_e21⟩ hb_ hon hoff
      refine ⟨_, rfl, fun K hK => ?_⟩
      have e18 : a.tmps[18]? = some (.pointer (some ⟨g, 0, none⟩)) := by rw [ha]; exact (putSel_off rfl).trans rfl
      replace ha := az ha
      have BK115 := az (Q_BK115 (hoff 21 (by kernel_rfl)))
      have BK119 := az Q_BK119
      have HK := az Q_HK
      have HB := az Q_HB
      have HO124 := az (Q_HO124 (hon 6 (by kernel_rfl)))
      have HI0 := az (Q_HI0_e7 (hon 7 (by kernel_rfl)) hb_)
      refine goes_ Try.func62 (by kernel_rfl) rfl #[.pointer (some ⟨g, 0, none⟩), .int .i64 256] (by rfl) rfl rfl (by first | (simp only [List.map_toArray, List.map_cons, List.map_nil, Act.eval, Array.getD_eq_getD_getElem?, Option.getD_some, e18]; done) | (simp only [List.map_toArray, List.map_cons, List.map_nil, Act.eval, Array.getD_eq_getD_getElem?, Option.getD_some, e18]; rfl)) ?_
      with_reducible refine (spec_l1Rd_pick.calls k g s0_0 t126 256 t127 t128 w0 _ ?side1 ?side2 A5.out).mono ?_
      (case side1 => exact qI HI0)
      (case side2 => exact qL HB)
      rintro e w21 ⟨rfl, hi, hb, hk⟩
      refine ⟨_, rfl, ?_⟩
      have n0_ := kKB BK115 hk NB115_0
      have n1_ := kKB BK119 hk NB119_0
      have n2_ := az (Kd.R_mono (Kd.R_keep (IsS95.apart (show IsS95 w0 _ g s0_0 t126 from qI HI0) (by (with_reducible repeat (first | apply Kd.R_alloc | apply Kd.R_drewN | apply Kd.R_drew)); exact HO124.out) (by decide)) hk (fun _ h => h.2)) (fun _ h => h.1))
      have n3_ := az (KeepBut.trans (qK HK) hk (.inl rfl))
      have n4_ := az hb
      have n5_ := az hi
      have z_HO131 := fun (h0_ : b 15 = true) => (show Kd.R (Kd.int .i64) 3 w21 w.heap.size (fun _ => True) v130 y129 from by first | exact (Kd.R_mono (Kd.R_keep (IsS95.apart (show IsS95 w0 _ g s0_0 t126 from qI HI0) (by (with_reducible repeat (first | apply Kd.R_alloc | apply Kd.R_drewN | apply Kd.R_drew)); exact (Q_HO131 h0_)) (by decide)) hk (fun _ h => h.2)) (fun _ h => h.1)) | exact Kd.R_mono (Kd.R_mono (Kd.R_keep (IsS95.apart (show IsS95 w0 _ g s0_0 t126 from qI HI0) (by (with_reducible repeat (first | apply Kd.R_alloc | apply Kd.R_drewN | apply Kd.R_drew)); exact (Q_HO131 h0_)) (by decide)) hk (fun _ h => h.2)) (fun _ h => h.1)) (fun _ h_ => by first | trivial | exact h_ | exact h_.1))
      clear BK115
      clear BK119
      clear HO124
      clear HK
      clear HB
      clear HI0
      have BK115 := n0_
      have BK119 := n1_
      have HO124 := n2_
      have HK := n3_
      have HB := n4_
      have HI0 := n5_
      clear n0_ n1_ n2_ n3_ n4_ n5_
      clear hb hk hi
      refine hK.out _ _ ⟨v123, v130, (by rw [ha.out]; exact putSel_upk 8 hb_ rfl rfl rfl), fun _ => (qB BK115), (qB BK119), fun h0_ => absurd ((hon 4 (by kernel_rfl)).symm.trans h0_) (by decide), (qK HK), (qL HB), fun _ h1_ => absurd ((hon 7 (by kernel_rfl)).symm.trans h1_) (by decide), fun _ => (by (with_reducible repeat (first | apply Kd.R_alloc | apply Kd.R_drewN | apply Kd.R_drew)); exact HO124.out), fun _ h1_ => absurd ((up_self b 13).symm.trans h1_) (by decide), fun _ _ => (qI HI0), z_HO131, fun h0_ => absurd ((hoff 16 (by kernel_rfl)).symm.trans h0_) (by decide), fun h0_ => absurd ((hoff 21 (by kernel_rfl)).symm.trans h0_) (by decide)⟩
    refine steps_cons ?_ ?_
    · rintro b a w' ⟨v123, v130, ha, Q_BK115, Q_BK119, Q_HI0, Q_HK, Q_HB, Q_HI0_e4, Q_HO124, Q_HI0_e7, Q_HI0_e13, Q_HO131, Q_HI0_e16, Q_BK115_e21⟩ hb_ hon hoff
      refine ⟨_, rfl, fun K hK => ?_⟩
      replace ha := az ha
      have BK115 := az (Q_BK115 (hoff 21 (by kernel_rfl)))
      have BK119 := az Q_BK119
      have HK := az Q_HK
      have HB := az Q_HB
      refine Kd.R_lit_step (Kd.int .i64) _ 3 ?hg (N := 21) ?hd (xs := ([0, 1, 4] : List Int)) (inner := [.int .i64 0, .int .i64 1, .int .i64 4]) (ok := fun _ => True) (okp := fun _ => True) ?hr ?hp (fun _ hk => hk) trivial (Below.refl _ _) (Nat.le_refl _) (by simp) ?_; (case hd => rfl); (case hg => rfl); (case hr => first | (go_simp; done) | (go_simp; rfl)); (case hp => exact (Reps.one (show Kd.M (Kd.int .i64) _ _ _ 0 [.int .i64 0] from rfl) (Reps.one (show Kd.M (Kd.int .i64) _ _ _ 1 [.int .i64 1] from rfl) (Reps.one (show Kd.M (Kd.int .i64) _ _ _ 4 [.int .i64 4] from rfl) (Reps.none _ _)))))
      intro v130 w15 ho16 hb hg_ hnew_
      clear hg_ hnew_
      (first | rw [← Ny129.out] at ho16 | (simp only [Int.reduceToNat] at ho16; rw [← Ny129.out] at ho16))
      have n0_ := az (Kd.R_lower ho16 (keep_size (w := w) (g := g) (row := none) (qK HK)))
      have n2_ := kBB BK115 hb
      have n3_ := kBB BK119 hb
      have n4_ := az (KeepBut.trans (qK HK) (KeepBut.of_below hb g none) (.inl rfl))
      have n5_ := bS HB hb
      have z_HI0 := fun (h0_ : b 4 = false) => (show IsS95 w0 w15 g s0_0 t118 from by first | exact (IsS95.below (by repeat (first | (with_reducible first | exact (Q_HI0 h0_) | apply IsS95.alloc | apply IsS95.drewN | apply IsS95.drew | apply IsS95.set_1 | refine IsS95.far ?_ NB0_115.out _ | refine IsS95.far ?_ NB0_119.out _) | exact (Q_HI0 h0_))) hb))
      have z_HI0_e4 := fun (h0_ : b 4 = true) (h1_ : b 7 = false) => (show IsS95 w0 w15 g s0_0 t121 from by first | exact (IsS95.below (by repeat (first | (with_reducible first | exact (Q_HI0_e4 h0_ h1_) | apply IsS95.alloc | apply IsS95.drewN | apply IsS95.drew | apply IsS95.set_1 | refine IsS95.far ?_ NB0_115.out _ | refine IsS95.far ?_ NB0_119.out _) | exact (Q_HI0_e4 h0_ h1_))) hb))
      have z_HO124 := fun (h0_ : b 6 = true) => (show Kd.R (Kd.int .i64) 3 w15 w.heap.size (fun _ => True) v123 y122 from by first | exact (Kd.R_elder' (by (with_reducible repeat (first | apply Kd.R_alloc | apply Kd.R_drewN | apply Kd.R_drew)); exact (Q_HO124 h0_)) (Kd.R_base ho16) hb) | exact Kd.R_mono (Kd.R_elder' (by (with_reducible repeat (first | apply Kd.R_alloc | apply Kd.R_drewN | apply Kd.R_drew)); exact (Q_HO124 h0_)) (Kd.R_base ho16) hb) (fun _ h_ => by first | trivial | exact h_ | exact h_.1))
      have z_HI0_e7 := fun (h0_ : b 7 = true) (h1_ : b 13 = false) => (show IsS95 w0 w15 g s0_0 t126 from by first | exact (IsS95.below (by repeat (first | (with_reducible first | exact (Q_HI0_e7 h0_ h1_) | apply IsS95.alloc | apply IsS95.drewN | apply IsS95.drew | apply IsS95.set_1 | refine IsS95.far ?_ NB0_115.out _ | refine IsS95.far ?_ NB0_119.out _) | exact (Q_HI0_e7 h0_ h1_))) hb))
      have z_HI0_e13 := fun (h0_ : b 13 = true) (h1_ : b 16 = false) => (show IsS95 w0 w15 g s0_0 t128 from by first | exact (IsS95.below (by repeat (first | (with_reducible first | exact (Q_HI0_e13 h0_ h1_) | apply IsS95.alloc | apply IsS95.drewN | apply IsS95.drew | apply IsS95.set_1 | refine IsS95.far ?_ NB0_115.out _ | refine IsS95.far ?_ NB0_119.out _) | exact (Q_HI0_e13 h0_ h1_))) hb))
      clear BK115
      clear BK119
      clear HK
      clear HB
      have HO131 := n0_
      have BK115 := n2_
      have BK119 := n3_
      have HK := n4_
      have HB := n5_
      clear n0_ n2_ n3_ n4_ n5_
      clear hb ho16
      refine hK.out _ _ ⟨v123, v130, (by rw [ha.out]; exact putSel_upk 9 hb_ rfl rfl rfl), fun _ => (qB BK115), (qB BK119), z_HI0, (qK HK), (qL HB), z_HI0_e4, z_HO124, z_HI0_e7, z_HI0_e13, fun _ => (by (with_reducible repeat (first | apply Kd.R_alloc | apply Kd.R_drewN | apply Kd.R_drew)); exact HO131.out), fun h0_ => absurd ((hoff 16 (by kernel_rfl)).symm.trans h0_) (by decide), fun h0_ => absurd ((hoff 21 (by kernel_rfl)).symm.trans h0_) (by decide)⟩
    refine steps_cons ?_ ?_
    · rintro b a w' ⟨v123, v130, ha, Q_BK115, Q_BK119, Q_HI0, Q_HK, Q_HB, Q_HI0_e4, Q_HO124, Q_HI0_e7, Q_HI0_e13, Q_HO131, Q_HI0_e16, Q_BK115_e21⟩ hb_ hon hoff
      refine ⟨_, rfl, fun K hK => ?_⟩
      have e20 : a.tmps[20]? = some (.pointer (some ⟨g, 0, none⟩)) := by rw [ha]; exact (putSel_off rfl).trans rfl
      have e21 : a.tmps[21]? = some (v130) := by rw [ha]; exact putSel_on (e := (15, 21, v130)) 9 rfl rfl (hon 15 (by kernel_rfl)) rfl
      replace ha := az ha
      have BK115 := az (Q_BK115 (hoff 21 (by kernel_rfl)))
      have BK119 := az Q_BK119
      have HK := az Q_HK
      have HB := az Q_HB
      have HO124 := az (Q_HO124 (hon 6 (by kernel_rfl)))
      have HI0 := az (Q_HI0_e13 (hon 13 (by kernel_rfl)) hb_)
      have HO131 := az (Q_HO131 (hon 15 (by kernel_rfl)))
      obtain ⟨Ao24, co24, eo24⟩ := Kd.R_slice HO131.out
      (first | subst eo24 | (injection eo24 with f1_ f2_ f3_; have f4_ := f1_.symm; have f5_ := f3_.symm; clear f1_ f2_ f3_; subst f4_; subst f5_))
      refine goes_ Try.func63 (by kernel_rfl) rfl #[.pointer (some ⟨g, 0, none⟩), .slice Ao24 y129.length co24] (by rfl) rfl rfl (by first | (simp only [List.map_toArray, List.map_cons, List.map_nil, Act.eval, Array.getD_eq_getD_getElem?, Option.getD_some, e20, e21]; done) | (simp only [List.map_toArray, List.map_cons, List.map_nil, Act.eval, Array.getD_eq_getD_getElem?, Option.getD_some, e20, e21]; rfl)) ?_
      with_reducible refine (spec_l1Rd_one.calls k g s0_0 t128 _ _ y129 t132 t133 w0 _ ?side1 ?side2 ?side3 ?side4 ?side5 A6.out).mono ?_
      (case side1 => exact qI HI0)
      (case side2 => exact qL HB)
      (case side3 => repeat (first | exact (Kd.R_reads' HO131.out).2.2 | (with_reducible refine Kd.C_alloc ?_ _) | (with_reducible refine Kd.C_drewN ?_ _) | (with_reducible refine Kd.C_drew ?_)))
      (case side4 => exact (Kd.R_reads' HO131.out).2.1)
      (case side5 => exact far_slice (IsS95.own_ne HI0.out HO131.out (by decide)))
      rintro e w25 ⟨rfl, hi, hb, hk⟩
      refine ⟨_, rfl, ?_⟩
      replace BK115 := kKB BK115 hk NB115_0
      replace BK119 := kKB BK119 hk NB119_0
      replace HO124 := az (Kd.R_mono (Kd.R_keep (IsS95.apart (show IsS95 w0 _ g s0_0 t128 from qI HI0) (by (with_reducible repeat (first | apply Kd.R_alloc | apply Kd.R_drewN | apply Kd.R_drew)); exact HO124.out) (by decide)) hk (fun _ h => h.2)) (fun _ h => h.1))
      replace HO131 := az (Kd.R_mono (Kd.R_keep (IsS95.apart (show IsS95 w0 _ g s0_0 t128 from qI HI0) (by (with_reducible repeat (first | apply Kd.R_alloc | apply Kd.R_drewN | apply Kd.R_drew)); exact HO131.out) (by decide)) hk (fun _ h => h.2)) (fun _ h => h.1))
      replace HK := az (KeepBut.trans (qK HK) hk (.inl rfl))
      replace HB := az hb
      replace HI0 := az hi
      clear hb hk hi
      refine hK.out _ _ ⟨v123, .slice Ao24 y129.length co24, (by rw [ha.out]; exact putSel_upk 10 hb_ rfl rfl rfl), fun _ => (qB BK115), (qB BK119), fun h0_ => absurd ((hon 4 (by kernel_rfl)).symm.trans h0_) (by decide), (qK HK), (qL HB), fun _ h1_ => absurd ((hon 7 (by kernel_rfl)).symm.trans h1_) (by decide), fun _ => (by (with_reducible repeat (first | apply Kd.R_alloc | apply Kd.R_drewN | apply Kd.R_drew)); exact HO124.out), fun _ h1_ => absurd ((hon 13 (by kernel_rfl)).symm.trans h1_) (by decide), fun _ h1_ => absurd ((up_self b 16).symm.trans h1_) (by decide), fun _ => (by (with_reducible repeat (first | apply Kd.R_alloc | apply Kd.R_drewN | apply Kd.R_drew)); exact HO131.out), fun _ => (qI HI0), fun h0_ => absurd ((hoff 21 (by kernel_rfl)).symm.trans h0_) (by decide)⟩
    refine steps_cons ?_ ?_
    · rintro b a w' ⟨v123, v130, ha, Q_BK115, Q_BK119, Q_HI0, Q_HK, Q_HB, Q_HI0_e4, Q_HO124, Q_HI0_e7, Q_HI0_e13, Q_HO131, Q_HI0_e16, Q_BK115_e21⟩ hb_ hon hoff
      refine ⟨_, rfl, fun K hK => ?_⟩
      have e19 : a.tmps[19]? = some (.int .i64 t127) := by rw [ha]; exact putSel_on (e := (13, 19, .int .i64 t127)) 8 rfl rfl (hon 13 (by kernel_rfl)) rfl
      have e22 : a.tmps[22]? = some (.int .i64 t132) := by rw [ha]; exact putSel_on (e := (16, 22, .int .i64 t132)) 10 rfl rfl (hon 16 (by kernel_rfl)) rfl
      replace ha := az ha
      have BK115 := az (Q_BK115 (hoff 21 (by kernel_rfl)))
      have BK119 := az Q_BK119
      have HK := az Q_HK
      have HB := az Q_HB
      have HO124 := az (Q_HO124 (hon 6 (by kernel_rfl)))
      have HO131 := az (Q_HO131 (hon 15 (by kernel_rfl)))
      have HI0 := az (Q_HI0_e16 (hon 16 (by kernel_rfl)))
      refine value_ (w1 := w') (v := .int .i64 (wrap64 (t127 * t132))) (by rfl) rfl ?_ ?_
      · go_simp
        (try simp only [i64_w])
        try rfl
      refine hK.out _ _ ⟨v123, v130, (by rw [ha.out]; exact putSel_upk 11 hb_ rfl rfl rfl), Q_BK115, Q_BK119, fun h0_ => absurd ((hon 4 (by kernel_rfl)).symm.trans h0_) (by decide), Q_HK, Q_HB, fun _ h1_ => absurd ((hon 7 (by kernel_rfl)).symm.trans h1_) (by decide), Q_HO124, fun _ h1_ => absurd ((hon 13 (by kernel_rfl)).symm.trans h1_) (by decide), fun _ h1_ => absurd ((hon 16 (by kernel_rfl)).symm.trans h1_) (by decide), Q_HO131, Q_HI0_e16, fun h0_ => absurd ((hoff 21 (by kernel_rfl)).symm.trans h0_) (by decide)⟩
    refine steps_cons ?_ ?_
    · rintro b a w' ⟨v123, v130, ha, Q_BK115, Q_BK119, Q_HI0, Q_HK, Q_HB, Q_HI0_e4, Q_HO124, Q_HI0_e7, Q_HI0_e13, Q_HO131, Q_HI0_e16, Q_BK115_e21⟩ hb_ hon hoff
      refine ⟨_, rfl, fun K hK => ?_⟩
      have e17 : a.tmps[17]? = some (.int .i64 t117) := by rw [ha]; exact putSel_on (e := (11, 17, .int .i64 t117)) 7 rfl rfl (hon 11 (by kernel_rfl)) rfl
      have e23 : a.tmps[23]? = some (.int .i64 (wrap64 (t127 * t132))) := by rw [ha]; exact putSel_on (e := (17, 23, .int .i64 (wrap64 (t127 * t132)))) 11 rfl rfl (hon 17 (by kernel_rfl)) rfl
      replace ha := az ha
      have BK115 := az (Q_BK115 (hoff 21 (by kernel_rfl)))
      have BK119 := az Q_BK119
      have HK := az Q_HK
      have HB := az Q_HB
      have HO124 := az (Q_HO124 (hon 6 (by kernel_rfl)))
      have HO131 := az (Q_HO131 (hon 15 (by kernel_rfl)))
      have HI0 := az (Q_HI0_e16 (hon 16 (by kernel_rfl)))
      refine value_ (w1 := w') (v := .int .i64 (wrap64 (t117 + (wrap64 (t127 * t132))))) (by rfl) rfl ?_ ?_
      · go_simp
        (try simp only [i64_w])
        try rfl
      refine hK.out _ _ ⟨v123, v130, (by rw [ha.out]; exact putSel_upk 12 hb_ rfl rfl rfl), Q_BK115, Q_BK119, fun h0_ => absurd ((hon 4 (by kernel_rfl)).symm.trans h0_) (by decide), Q_HK, Q_HB, fun _ h1_ => absurd ((hon 7 (by kernel_rfl)).symm.trans h1_) (by decide), Q_HO124, fun _ h1_ => absurd ((hon 13 (by kernel_rfl)).symm.trans h1_) (by decide), fun _ h1_ => absurd ((hon 16 (by kernel_rfl)).symm.trans h1_) (by decide), Q_HO131, Q_HI0_e16, fun h0_ => absurd ((hoff 21 (by kernel_rfl)).symm.trans h0_) (by decide)⟩
    refine steps_cons ?_ ?_
    · rintro b a w' ⟨v123, v130, ha, Q_BK115, Q_BK119, Q_HI0, Q_HK, Q_HB, Q_HI0_e4, Q_HO124, Q_HI0_e7, Q_HI0_e13, Q_HO131, Q_HI0_e16, Q_BK115_e21⟩ hb_ hon hoff
      refine ⟨_, rfl, fun K hK => ?_⟩
      have e15 : a.tmps[15]? = some (.int .i64 (wrap64 (t116 + (wrap64 (t120 * t125))))) := by rw [ha]; exact putSel_on (e := (9, 15, .int .i64 (wrap64 (t116 + (wrap64 (t120 * t125)))))) 6 rfl rfl (hon 9 (by kernel_rfl)) rfl
      have e24 : a.tmps[24]? = some (.int .i64 (wrap64 (t117 + (wrap64 (t127 * t132))))) := by rw [ha]; exact putSel_on (e := (18, 24, .int .i64 (wrap64 (t117 + (wrap64 (t127 * t132)))))) 12 rfl rfl (hon 18 (by kernel_rfl)) rfl
      replace ha := az ha
      have BK115 := az (Q_BK115 (hoff 21 (by kernel_rfl)))
      have BK119 := az Q_BK119
      have HK := az Q_HK
      have HB := az Q_HB
      have HO124 := az (Q_HO124 (hon 6 (by kernel_rfl)))
      have HO131 := az (Q_HO131 (hon 15 (by kernel_rfl)))
      have HI0 := az (Q_HI0_e16 (hon 16 (by kernel_rfl)))
      refine value_ (w1 := w') (v := .agg #[.int .i64 (wrap64 (t116 + (wrap64 (t120 * t125)))), .int .i64 (wrap64 (t117 + (wrap64 (t127 * t132))))]) (by rfl) rfl ?_ ?_
      · go_simp
        (try simp only [i64_w])
        try rfl
      refine hK.out _ _ ⟨v123, v130, (by rw [ha.out]; exact putSel_upk 13 hb_ rfl rfl rfl), Q_BK115, Q_BK119, fun h0_ => absurd ((hon 4 (by kernel_rfl)).symm.trans h0_) (by decide), Q_HK, Q_HB, fun _ h1_ => absurd ((hon 7 (by kernel_rfl)).symm.trans h1_) (by decide), Q_HO124, fun _ h1_ => absurd ((hon 13 (by kernel_rfl)).symm.trans h1_) (by decide), fun _ h1_ => absurd ((hon 16 (by kernel_rfl)).symm.trans h1_) (by decide), Q_HO131, Q_HI0_e16, fun h0_ => absurd ((hoff 21 (by kernel_rfl)).symm.trans h0_) (by decide)⟩
    refine steps_cons ?_ ?_
    · rintro b a w' ⟨v123, v130, ha, Q_BK115, Q_BK119, Q_HI0, Q_HK, Q_HB, Q_HI0_e4, Q_HO124, Q_HI0_e7, Q_HI0_e13, Q_HO131, Q_HI0_e16, Q_BK115_e21⟩ hb_ hon hoff
      refine ⟨_, rfl, fun K hK => ?_⟩
      have e6 : a.tmps[6]? = some (.agg #[.int .i64 t116, .int .i64 t117]) := by rw [ha]; exact putSel_on (e := (0, 6, .agg #[.int .i64 t116, .int .i64 t117])) 0 rfl rfl (hon 0 (by kernel_rfl)) rfl
      have e25 : a.tmps[25]? = some (.agg #[.int .i64 (wrap64 (t116 + (wrap64 (t120 * t125)))), .int .i64 (wrap64 (t117 + (wrap64 (t127 * t132))))]) := by rw [ha]; exact putSel_on (e := (19, 25, .agg #[.int .i64 (wrap64 (t116 + (wrap64 (t120 * t125)))), .int .i64 (wrap64 (t117 + (wrap64 (t127 * t132))))])) 13 rfl rfl (hon 19 (by kernel_rfl)) rfl
      replace ha := az ha
      have BK115 := az (Q_BK115 (hoff 21 (by kernel_rfl)))
      have BK119 := az Q_BK119
      have HK := az Q_HK
      have HB := az Q_HB
      have HO124 := az (Q_HO124 (hon 6 (by kernel_rfl)))
      have HO131 := az (Q_HO131 (hon 15 (by kernel_rfl)))
      have HI0 := az (Q_HI0_e16 (hon 16 (by kernel_rfl)))
      refine value_ (w1 := w') (v := .agg #[.int .i64 t116, .int .i64 t117, .int .i64 (wrap64 (t116 + (wrap64 (t120 * t125)))), .int .i64 (wrap64 (t117 + (wrap64 (t127 * t132))))]) (by rfl) rfl ?_ ?_
      · go_simp
        (try simp only [i64_w])
        try rfl
      refine hK.out _ _ ⟨v123, v130, (by rw [ha.out]; exact putSel_upk 14 hb_ rfl rfl rfl), Q_BK115, Q_BK119, fun h0_ => absurd ((hon 4 (by kernel_rfl)).symm.trans h0_) (by decide), Q_HK, Q_HB, fun _ h1_ => absurd ((hon 7 (by kernel_rfl)).symm.trans h1_) (by decide), Q_HO124, fun _ h1_ => absurd ((hon 13 (by kernel_rfl)).symm.trans h1_) (by decide), fun _ h1_ => absurd ((hon 16 (by kernel_rfl)).symm.trans h1_) (by decide), Q_HO131, Q_HI0_e16, fun h0_ => absurd ((hoff 21 (by kernel_rfl)).symm.trans h0_) (by decide)⟩
    refine steps_cons ?_ ?_
    · rintro b a w' ⟨v123, v130, ha, Q_BK115, Q_BK119, Q_HI0, Q_HK, Q_HB, Q_HI0_e4, Q_HO124, Q_HI0_e7, Q_HI0_e13, Q_HO131, Q_HI0_e16, Q_BK115_e21⟩ hb_ hon hoff
      refine ⟨_, rfl, fun K hK => ?_⟩
      have e2 : a.tmps[2]? = some (.pointer (some ⟨gb115, 0, none⟩)) := by rw [ha]; exact (putSel_off rfl).trans rfl
      have e26 : a.tmps[26]? = some (.agg #[.int .i64 t116, .int .i64 t117, .int .i64 (wrap64 (t116 + (wrap64 (t120 * t125)))), .int .i64 (wrap64 (t117 + (wrap64 (t127 * t132))))]) := by rw [ha]; exact putSel_on (e := (20, 26, .agg #[.int .i64 t116, .int .i64 t117, .int .i64 (wrap64 (t116 + (wrap64 (t120 * t125)))), .int .i64 (wrap64 (t117 + (wrap64 (t127 * t132))))])) 14 rfl rfl (hon 20 (by kernel_rfl)) rfl
      replace ha := az ha
      have BK115 := az (Q_BK115 hb_)
      have BK119 := az Q_BK119
      have HK := az Q_HK
      have HB := az Q_HB
      have HO124 := az (Q_HO124 (hon 6 (by kernel_rfl)))
      have HO131 := az (Q_HO131 (hon 15 (by kernel_rfl)))
      have HI0 := az (Q_HI0_e16 (hon 16 (by kernel_rfl)))
      have hs26 : w'.cell? ⟨gb115, 0, none⟩ = some (.int .i64 0) := bc BK115 0
      have hfs26 := blk_frozen BK115.out 0
      have hns26_1 := NB119_115.out
      have hms26_1 := NB115_119.out
      have hs27 : w'.cell? ⟨gb115, 1, none⟩ = some (.int .i64 0) := bc BK115 1
      have hfs27 := blk_frozen BK115.out 1
      have hns27_1 := NB119_115.out
      have hms27_1 := NB115_119.out
      have hs28 : w'.cell? ⟨gb115, 2, none⟩ = some (.int .i64 0) := bc BK115 2
      have hfs28 := blk_frozen BK115.out 2
      have hns28_1 := NB119_115.out
      have hms28_1 := NB115_119.out
      have hs29 : w'.cell? ⟨gb115, 3, none⟩ = some (.int .i64 0) := bc BK115 3
      have hfs29 := blk_frozen BK115.out 3
      have hns29_1 := NB119_115.out
      have hms29_1 := NB115_119.out
      refine skip_ (w1 := ?_) ?hw ?hn ?_ ?_; (case hw => unfold Region.wanted; rfl); (case hn => rfl)
      rotate_left
      · go_simp
        rfl
      refine hK.out _ _ ⟨v123, v130, (by rw [ha.out]; exact putSel_none (v := undef) rfl), fun h0_ => absurd ((up_self b 21).symm.trans h0_) (by decide), (qF BK119), fun h0_ => absurd ((hon 4 (by kernel_rfl)).symm.trans h0_) (by decide), (qK HK), (qL HB), fun _ h1_ => absurd ((hon 7 (by kernel_rfl)).symm.trans h1_) (by decide), fun _ => (by (with_reducible repeat (first | apply Kd.R_alloc | apply Kd.R_drewN | apply Kd.R_drew)); exact Kd.R_mono (Kd.R_far (p := ⟨gb115, 3, none⟩) (Kd.R_far (p := ⟨gb115, 2, none⟩) (Kd.R_far (p := ⟨gb115, 1, none⟩) (Kd.R_far (p := ⟨gb115, 0, none⟩) (Kd.R_types HO124.out BK115.out (by decide)) (fun _ hk => hk.2) (.int .i64 t116)) (fun _ hk => hk.2) (.int .i64 t117)) (fun _ hk => hk.2) (.int .i64 (wrap64 (t116 + (wrap64 (t120 * t125)))))) (fun _ hk => hk.2) (.int .i64 (wrap64 (t117 + (wrap64 (t127 * t132)))))) (fun _ hk => hk.1)), fun _ h1_ => absurd ((hon 13 (by kernel_rfl)).symm.trans h1_) (by decide), fun _ h1_ => absurd ((hon 16 (by kernel_rfl)).symm.trans h1_) (by decide), fun _ => (by (with_reducible repeat (first | apply Kd.R_alloc | apply Kd.R_drewN | apply Kd.R_drew)); exact Kd.R_mono (Kd.R_far (p := ⟨gb115, 3, none⟩) (Kd.R_far (p := ⟨gb115, 2, none⟩) (Kd.R_far (p := ⟨gb115, 1, none⟩) (Kd.R_far (p := ⟨gb115, 0, none⟩) (Kd.R_types HO131.out BK115.out (by decide)) (fun _ hk => hk.2) (.int .i64 t116)) (fun _ hk => hk.2) (.int .i64 t117)) (fun _ hk => hk.2) (.int .i64 (wrap64 (t116 + (wrap64 (t120 * t125)))))) (fun _ hk => hk.2) (.int .i64 (wrap64 (t117 + (wrap64 (t127 * t132)))))) (fun _ hk => hk.1)), fun _ => (qI HI0), fun _ => (qP BK115)⟩
    exact steps_nil
  rintro b a w29 hall ⟨v123, v130, ha, Q_BK115, Q_BK119, Q_HI0, Q_HK, Q_HB, Q_HI0_e4, Q_HO124, Q_HI0_e7, Q_HI0_e13, Q_HO131, Q_HI0_e16, Q_BK115_e21⟩
  clear BK115 BK119 HB HI0 HK
  have hb0_ := hall 0 (by kernel_rfl)
  have hb2_ := hall 2 (by kernel_rfl)
  have hb4_ := hall 4 (by kernel_rfl)
  have hb6_ := hall 6 (by kernel_rfl)
  have hb7_ := hall 7 (by kernel_rfl)
  have hb8_ := hall 8 (by kernel_rfl)
  have hb9_ := hall 9 (by kernel_rfl)
  have hb11_ := hall 11 (by kernel_rfl)
  have hb13_ := hall 13 (by kernel_rfl)
  have hb15_ := hall 15 (by kernel_rfl)
  have hb16_ := hall 16 (by kernel_rfl)
  have hb17_ := hall 17 (by kernel_rfl)
  have hb18_ := hall 18 (by kernel_rfl)
  have hb19_ := hall 19 (by kernel_rfl)
  have hb20_ := hall 20 (by kernel_rfl)
  have hb21_ := hall 21 (by kernel_rfl)
  subst ha
  simp only [putSel, hb0_, hb2_, hb4_, hb6_, hb7_, hb8_, hb9_, hb11_, hb13_, hb15_, hb16_, hb17_, hb18_, hb19_, hb20_, hb21_, if_true, Act.put, List.setIfInBounds_toArray, List.set_cons_zero, List.set_cons_succ]
  clear Q_BK115
  have BK119 := az Q_BK119
  clear Q_BK119
  clear Q_HI0
  have HK := az Q_HK
  clear Q_HK
  have HB := az Q_HB
  clear Q_HB
  clear Q_HI0_e4
  have HO124 := az (Q_HO124 hb6_)
  clear Q_HO124
  clear Q_HI0_e7
  clear Q_HI0_e13
  have HO131 := az (Q_HO131 hb15_)
  clear Q_HO131
  have HI0 := az (Q_HI0_e16 hb16_)
  clear Q_HI0_e16
  have BK115 := az (Q_BK115_e21 hb21_)
  clear Q_BK115_e21
  clear hall hb0_ hb2_ hb4_ hb6_ hb7_ hb8_ hb9_ hb11_ hb13_ hb15_ hb16_ hb17_ hb18_ hb19_ hb20_ hb21_
  try go_wp2
  refine bodyPost_ret (results_cell_row rfl _ _ gb115 26 #[.int .i64 t116, .int .i64 t117, .int .i64 (wrap64 (t116 + (wrap64 (t120 * t125)))), .int .i64 (wrap64 (t117 + (wrap64 (t127 * t132))))] (0, 0) _ rfl (qB BK115) Try.underlying26 rfl (by kernel_rfl)) rfl ?_
  exact ⟨qE, qI HI0, qL HB, qK HK⟩
end Go.Proofs.Ytihajbjkjclmoaa.PBig
