/- What these functions compute, each walked once: spec_l5Touch; for all arguments and worlds, under the conditions that each theorem names. -/
import Derived.Test.YtihajbjkjclmoaaSq
import Derived.Test.YtihajbjkjclmoaaPBigx923
import Derived.Test.YtihajbjkjclmoaaPBigx924
namespace Go.Proofs.Ytihajbjkjclmoaa.PBig
open Go.RowKit Go.Proofs.YtihajbjkjclmoaaW.PrintWords Go.Proofs.YtihajbjkjclmoaaW.PrintLast Go.Proofs.YtihajbjkjclmoaaW.PrintMore
attribute [local go_sem] max2_int min2_int max_two min_two max_three min_three max_four min_four   -- for this text's walks alone
set_option linter.unusedVariables false
set_option linter.unusedSimpArgs false

/-! ### spec_l5Touch: function 73 -/
mutual
def spec_l5Touch.j0 : Nat → Bool → Int → Int → Int → Int → Int → Int → Int → Int → Int → Int → Option (Int × Int × Int × Bool)
  | 0, _, _, _, _, _, _, _, _, _, _, _ => none
  | k + 1, x12, x938000, x938001, x938002, x939000, x939001, x940000, x940001, x940002, x941000, x941001 => if x12 = true then ((spec_l5Rounds.f k x939000 x939001 x941000 x941001 (wrap64 (x938001 + x940001))).bind fun bt942 => (some (bt942.1, bt942.2.1, bt942.2.2.1, bt942.2.2.2))) else (if x938000 = 2 then (spec_l5Touch.j1 k (x940000 == 2) x938000 x938001 x938002 x939000 x939001 x940000 x940001 x940002 x941000 x941001) else (spec_l5Touch.j1 k false x938000 x938001 x938002 x939000 x939001 x940000 x940001 x940002 x941000 x941001))
def spec_l5Touch.j1 : Nat → Bool → Int → Int → Int → Int → Int → Int → Int → Int → Int → Int → Option (Int × Int × Int × Bool)
  | 0, _, _, _, _, _, _, _, _, _, _, _ => none
  | k + 1, x31, x938000, x938001, x938002, x939000, x939001, x940000, x940001, x940002, x941000, x941001 => if x31 = true then ((spec_l3Bounds.f x938000 x938001 x938002 x939000 x939001).bind fun bt946 => ((spec_l3Bounds.f x940000 x940001 x940002 x941000 x941001).bind fun bt950 => ((spec_l5Boxes.f k bt946.1 bt946.2.1 bt946.2.2.1 bt946.2.2.2 bt950.1 bt950.2.1 bt950.2.2.1 bt950.2.2.2).bind fun bt954 => (some (bt954.1, bt954.2.1, bt954.2.2.1, bt954.2.2.2))))) else (if x938000 = 2 then ((spec_l3Bounds.f x938000 x938001 x938002 x939000 x939001).bind fun bt958 => ((spec_l5Mixed.f k bt958.1 bt958.2.1 bt958.2.2.1 bt958.2.2.2 x941000 x941001 x940001).bind fun bt962 => (some (bt962.1, bt962.2.1, bt962.2.2.1, bt962.2.2.2)))) else ((spec_l3Bounds.f x940000 x940001 x940002 x941000 x941001).bind fun bt966 => ((spec_l5Mixed.f k bt966.1 bt966.2.1 bt966.2.2.1 bt966.2.2.2 x939000 x939001 x938001).bind fun bt970 => (if bt970.2.2.2 = true then ((spec_l5Turn.f bt970.1 bt970.2.1 bt970.2.2.1).bind fun bt975 => (some (bt975.1, bt975.2.1, bt975.2.2, true))) else (some (0, 0, 0, false))))))
end
def spec_l5Touch.f (k : Nat) (a0_0 : Int) (a0_1 : Int) (a0_2 : Int) (a1_0 : Int) (a1_1 : Int) (a2_0 : Int) (a2_1 : Int) (a2_2 : Int) (a3_0 : Int) (a3_1 : Int) : Option (Int × Int × Int × Bool) := if a0_0 = 1 then (spec_l5Touch.j0 k (a2_0 == 1) a0_0 a0_1 a0_2 a1_0 a1_1 a2_0 a2_1 a2_2 a3_0 a3_1) else (spec_l5Touch.j0 k false a0_0 a0_1 a0_2 a1_0 a1_1 a2_0 a2_1 a2_2 a3_0 a3_1)
theorem spec_l5Touch.mono_l : ∀ k, (∀ y0 y1 y2 y3 y4 y5 y6 y7 y8 y9 y10, LeO (spec_l5Touch.j0 k y0 y1 y2 y3 y4 y5 y6 y7 y8 y9 y10) (spec_l5Touch.j0 (k + 1) y0 y1 y2 y3 y4 y5 y6 y7 y8 y9 y10)) ∧ (∀ y0 y1 y2 y3 y4 y5 y6 y7 y8 y9 y10, LeO (spec_l5Touch.j1 k y0 y1 y2 y3 y4 y5 y6 y7 y8 y9 y10) (spec_l5Touch.j1 (k + 1) y0 y1 y2 y3 y4 y5 y6 y7 y8 y9 y10))
  | 0 => ⟨fun _ _ _ _ _ _ _ _ _ _ _ r h => by simp [spec_l5Touch.j0] at h, fun _ _ _ _ _ _ _ _ _ _ _ r h => by simp [spec_l5Touch.j1] at h⟩
  | k + 1 => by
    obtain ⟨ih0, ih1⟩ := spec_l5Touch.mono_l k
    refine ⟨?_, ?_⟩
    · intro y0 y1 y2 y3 y4 y5 y6 y7 y8 y9 y10
      unfold spec_l5Touch.j0
      repeat' first
      | (with_reducible exact ih0 _ _ _ _ _ _ _ _ _ _ _)
      | (with_reducible exact ih1 _ _ _ _ _ _ _ _ _ _ _)
      | (with_reducible exact spec_l5Boxes.mono _ _ _ _ _ _ _ _ _)
      | (with_reducible exact spec_l5Mixed.mono _ _ _ _ _ _ _ _)
      | (with_reducible exact spec_l5Rounds.mono _ _ _ _ _ _)
      | (with_reducible exact LeO.refl _)
      | (with_reducible exact LeO.none _)
      | (with_reducible refine LeO.ite ?_ ?_)
      | (with_reducible refine LeO.bind ?_ (fun _ => ?_))
    · intro y0 y1 y2 y3 y4 y5 y6 y7 y8 y9 y10
      unfold spec_l5Touch.j1
      repeat' first
      | (with_reducible exact ih0 _ _ _ _ _ _ _ _ _ _ _)
      | (with_reducible exact ih1 _ _ _ _ _ _ _ _ _ _ _)
      | (with_reducible exact spec_l5Boxes.mono _ _ _ _ _ _ _ _ _)
      | (with_reducible exact spec_l5Mixed.mono _ _ _ _ _ _ _ _)
      | (with_reducible exact spec_l5Rounds.mono _ _ _ _ _ _)
      | (with_reducible exact LeO.refl _)
      | (with_reducible exact LeO.none _)
      | (with_reducible refine LeO.ite ?_ ?_)
      | (with_reducible refine LeO.bind ?_ (fun _ => ?_))
theorem spec_l5Touch.mono : ∀ a0 a1 a2 a3 a4 a5 a6 a7 a8 a9 k, LeO (spec_l5Touch.f k a0 a1 a2 a3 a4 a5 a6 a7 a8 a9) (spec_l5Touch.f (k + 1) a0 a1 a2 a3 a4 a5 a6 a7 a8 a9) := by
  intro a0 a1 a2 a3 a4 a5 a6 a7 a8 a9 k
  obtain ⟨ih0, ih1⟩ := spec_l5Touch.mono_l k
  unfold spec_l5Touch.f
  repeat' first
      | (with_reducible exact ih0 _ _ _ _ _ _ _ _ _ _ _)
      | (with_reducible exact ih1 _ _ _ _ _ _ _ _ _ _ _)
      | (with_reducible exact spec_l5Boxes.mono _ _ _ _ _ _ _ _ _)
      | (with_reducible exact spec_l5Mixed.mono _ _ _ _ _ _ _ _)
      | (with_reducible exact spec_l5Rounds.mono _ _ _ _ _ _)
      | (with_reducible exact LeO.refl _)
      | (with_reducible exact LeO.none _)
      | (with_reducible refine LeO.ite ?_ ?_)
      | (with_reducible refine LeO.bind ?_ (fun _ => ?_))
def spec_l5Touch.T4 : Bool × List (List Nat × List Nat) := (true, [([], []), ([], []), ([0, 1], [0, 1]), ([], []), ([], []), ([3, 4, 2], [3, 4]), ([2, 5, 5], [2, 5]), ([6], [6]), ([6], [6]), ([7, 6, 0, 1, 2, 3, 4, 5, 6, 7, 8], [7]), ([8, 9, 0, 1, 2, 3, 4, 5, 6, 7, 8, 9], [8])])
def spec_l5Touch.B4 : List Nat := [0, 0, 3, 0, 0, 31, 63, 127, 127, 511, 1023]
theorem spec_l5Touch.tab4 : rtab .any (opsOf Try.f73 4) = spec_l5Touch.T4 := by kernel_rfl
theorem spec_l5Touch.bits4 : waitsOk spec_l5Touch.T4.2 spec_l5Touch.B4 = true := by kernel_rfl
def spec_l5Touch.T6 : Bool × List (List Nat × List Nat) := (true, [([], []), ([], []), ([0, 1], [0, 1]), ([], []), ([], []), ([4], [4]), ([2, 3, 5, 2], [2, 3, 5]), ([6], [6]), ([6], [6]), ([7, 6, 0, 1, 2, 3, 4, 5, 6, 7, 8], [7]), ([8, 9, 0, 1, 2, 3, 4, 5, 6, 7, 8, 9], [8])])
def spec_l5Touch.B6 : List Nat := [0, 0, 3, 0, 0, 16, 63, 127, 127, 511, 1023]
theorem spec_l5Touch.tab6 : rtab .any (opsOf Try.f73 6) = spec_l5Touch.T6 := by kernel_rfl
theorem spec_l5Touch.bits6 : waitsOk spec_l5Touch.T6.2 spec_l5Touch.B6 = true := by kernel_rfl
def spec_l5Touch.T7 : Bool × List (List Nat × List Nat) := (true, [([], []), ([], []), ([0, 1], [0, 1]), ([], []), ([], []), ([4], [4]), ([2, 3, 5, 2], [2, 3, 5]), ([6], [6]), ([7], [7]), ([7], [7]), ([], []), ([10, 8, 6, 0, 1, 2, 3, 4, 5, 6, 7, 8, 10], [8, 10]), ([9, 11, 0, 1, 2, 3, 4, 5, 6, 7, 8, 9, 10, 11], [9])])
def spec_l5Touch.B7 : List Nat := [0, 0, 3, 0, 0, 16, 63, 127, 255, 255, 0, 1535, 4095]
theorem spec_l5Touch.tab7 : rtab .any (opsOf Try.f73 7) = spec_l5Touch.T7 := by kernel_rfl
theorem spec_l5Touch.bits7 : waitsOk spec_l5Touch.T7.2 spec_l5Touch.B7 = true := by kernel_rfl
set_option maxHeartbeats 8000000 in
set_option maxRecDepth 100000 in
theorem spec_l5Touch.calls (k : Nat) (a0_0 : Int) (a0_1 : Int) (a0_2 : Int) (a1_0 : Int) (a1_1 : Int) (a2_0 : Int) (a2_1 : Int) (a2_2 : Int) (a3_0 : Int) (a3_1 : Int) (r1 : Int) (r2 : Int) (r3 : Int) (r4 : Bool) (w : World) (h : spec_l5Touch.f k a0_0 a0_1 a0_2 a1_0 a1_1 a2_0 a2_1 a2_2 a3_0 a3_1 = some (r1, r2, r3, r4)) :
    Calls Try.prog 73 #[.agg #[.int .i64 a0_0, .int .i64 a0_1, .int .i64 a0_2], .agg #[.int .i64 a1_0, .int .i64 a1_1], .agg #[.int .i64 a2_0, .int .i64 a2_1, .int .i64 a2_2], .agg #[.int .i64 a3_0, .int .i64 a3_1]] w fun e w' => e = .returned (.tuple #[.agg #[.int .i64 r1, .int .i64 r2, .int .i64 r3], .bool r4]) ∧ Below w.heap.size w w' := by
  have hu38 := Try.underlying38
  have hu24 := Try.underlying24
  have hu56 := Try.underlying56
  have HB := az (Below.refl w.heap.size w)
  have H : (if a0_0 = 1 then (spec_l5Touch.j0 k (a2_0 == 1) a0_0 a0_1 a0_2 a1_0 a1_1 a2_0 a2_1 a2_2 a3_0 a3_1) else (spec_l5Touch.j0 k false a0_0 a0_1 a0_2 a1_0 a1_1 a2_0 a2_1 a2_2 a3_0 a3_1)) = some (r1, r2, r3, r4) := h
  clear h
  have HC5 := az H
  clear H
  go_enter Try.func73, Try.ntmps73
  go_upto_region 1 with (first | ((with_reducible refine gate_dst (N := 4) rfl ?_); refine bx (N := 4) (cs := #[.int .i64 a0_0, .int .i64 a0_1, .int .i64 a0_2]) (t := 38) ?_; intro gb937 hg w6 hbox hb; have BK937 := az hbox; have GW937 := az ((gE hg (qL HB) : w.heap.size ≤ gb937)); have GE937 := GW937; replace HB := bS HB hb; clear hb hbox hg) | ((with_reducible refine gate_dst (N := 5) rfl ?_); refine bx (N := 5) (cs := #[.int .i64 a1_0, .int .i64 a1_1]) (t := 24) ?_; intro gb938 hg w7 hbox hb; have BK938 := az hbox; have GW938 := az ((gE hg (qL HB) : w.heap.size ≤ gb938)); have GE938 := GW938; obtain ⟨NB937_938, NB938_937⟩ := nPB BK937 hg; replace BK937 := kBB BK937 hb; replace HB := bS HB hb; clear hb hbox hg) | ((with_reducible refine gate_dst (N := 6) rfl ?_); refine bx (N := 6) (cs := #[.int .i64 a2_0, .int .i64 a2_1, .int .i64 a2_2]) (t := 38) ?_; intro gb939 hg w8 hbox hb; have BK939 := az hbox; have GW939 := az ((gE hg (qL HB) : w.heap.size ≤ gb939)); have GE939 := GW939; obtain ⟨NB937_939, NB939_937⟩ := nPB BK937 hg; obtain ⟨NB938_939, NB939_938⟩ := nPB BK938 hg; replace BK937 := kBB BK937 hb; replace BK938 := kBB BK938 hb; replace HB := bS HB hb; clear hb hbox hg) | ((with_reducible refine gate_dst (N := 7) rfl ?_); refine bx (N := 7) (cs := #[.int .i64 a3_0, .int .i64 a3_1]) (t := 24) ?_; intro gb940 hg w9 hbox hb; have BK940 := az hbox; have GW940 := az ((gE hg (qL HB) : w.heap.size ≤ gb940)); have GE940 := GW940; obtain ⟨NB937_940, NB940_937⟩ := nPB BK937 hg; obtain ⟨NB938_940, NB940_938⟩ := nPB BK938 hg; obtain ⟨NB939_940, NB940_939⟩ := nPB BK939 hg; replace BK937 := kBB BK937 hb; replace BK938 := kBB BK938 hb; replace BK939 := kBB BK939 hb; replace HB := bS HB hb; clear hb hbox hg) | ((with_reducible refine gate_dst (N := 8) rfl ?_); refine bx (N := 8) (cs := #[.int .i64 0, .int .i64 0, .int .i64 0]) (t := 56) ?_; intro gb941 hg w10 hbox hb; have BK941 := az hbox; have GW941 := az ((gE hg (qL HB) : w.heap.size ≤ gb941)); have GE941 := GW941; obtain ⟨NB937_941, NB941_937⟩ := nPB BK937 hg; obtain ⟨NB938_941, NB941_938⟩ := nPB BK938 hg; obtain ⟨NB939_941, NB941_939⟩ := nPB BK939 hg; obtain ⟨NB940_941, NB941_940⟩ := nPB BK940 hg; replace BK937 := kBB BK937 hb; replace BK938 := kBB BK938 hb; replace BK939 := kBB BK939 hb; replace BK940 := kBB BK940 hb; replace HB := bS HB hb; clear hb hbox hg))
  (try simp only [Act.put, List.setIfInBounds_toArray, List.set_cons_zero, List.set_cons_succ])
  go_cut [12] (fun v12 wc => ∃ (kq : Nat) (x12_4 : Bool), v12 = .bool x12_4 ∧ Aside0 (spec_l5Touch.j0 kq x12_4 a0_0 a0_1 a0_2 a1_0 a1_1 a2_0 a2_1 a2_2 a3_0 a3_1 = some (r1, r2, r3, r4)) ∧ Aside0 (kq ≤ k) ∧ Aside0 (wc.heap[gb937]? = some (.cells #[.int .i64 a0_0, .int .i64 a0_1, .int .i64 a0_2] 38 (0, 0))) ∧ Aside0 (wc.heap[gb938]? = some (.cells #[.int .i64 a1_0, .int .i64 a1_1] 24 (0, 0))) ∧ Aside0 (wc.heap[gb939]? = some (.cells #[.int .i64 a2_0, .int .i64 a2_1, .int .i64 a2_2] 38 (0, 0))) ∧ Aside0 (wc.heap[gb940]? = some (.cells #[.int .i64 a3_0, .int .i64 a3_1] 24 (0, 0))) ∧ Aside0 (wc.heap[gb941]? = some (.cells #[.int .i64 0, .int .i64 0, .int .i64 0] 56 (0, 0))) ∧ Aside0 (Below w.heap.size w wc))
  case first =>
    have H := HC5.out
    clear HC5
    by_cases c11 : a0_0 = 1
    · rw [if_pos c11] at H
      have c11b0 : (a0_0 == 1) = true := beq_iff_eq.mpr c11
      have c11b1 : (a0_0 != 1) = false := bne_eq_false_iff_eq.mpr c11
      clear c11
      (first | rw [c11b0] | (simp only [i64_w, i32_w]; rw [c11b0]) | skip)
      have H' := az H
      clear H
      have hnb12 := NB937_938.out
      have hnc12 := NB938_937.out
      have hnb13 := NB937_939.out
      have hnc13 := NB939_937.out
      have hnb14 := NB937_940.out
      have hnc14 := NB940_937.out
      have hnb15 := NB937_941.out
      have hnc15 := NB941_937.out
      obtain ⟨hcz16_0, hcz16_1, hcz16_2⟩ := cz3 BK937.out
      obtain ⟨hfz16_0, hfz16_1, hfz16_2⟩ := fz3 BK937.out
      have hnb17 := NB939_938.out
      have hnc17 := NB938_939.out
      have hnb18 := NB939_940.out
      have hnc18 := NB940_939.out
      have hnb19 := NB939_941.out
      have hnc19 := NB941_939.out
      obtain ⟨hcz20_0, hcz20_1, hcz20_2⟩ := cz3 BK939.out
      obtain ⟨hfz20_0, hfz20_1, hfz20_2⟩ := fz3 BK939.out
      go_wp2
      go_meet
      case rel => exact ⟨_, ((a2_0 == 1)), (by first | rfl | (simp; done) | (simp [*]; done)), H', ⟨by first | omega | exact Nat.le_refl _⟩, ⟨qF BK937⟩, ⟨qF BK938⟩, ⟨qF BK939⟩, ⟨qF BK940⟩, ⟨qF BK941⟩, ⟨qL HB⟩⟩
    rw [if_neg c11] at H
    have c11b0 : (a0_0 == 1) = false := beq_eq_false_iff_ne.mpr c11
    have c11b1 : (a0_0 != 1) = true := bne_iff_ne.mpr c11
    (first | rw [c11b0] | (simp only [i64_w, i32_w]; rw [c11b0]) | skip)
    have H' := az H
    clear H
    have hnb21 := NB937_938.out
    have hnc21 := NB938_937.out
    have hnb22 := NB937_939.out
    have hnc22 := NB939_937.out
    have hnb23 := NB937_940.out
    have hnc23 := NB940_937.out
    have hnb24 := NB937_941.out
    have hnc24 := NB941_937.out
    obtain ⟨hcz25_0, hcz25_1, hcz25_2⟩ := cz3 BK937.out
    obtain ⟨hfz25_0, hfz25_1, hfz25_2⟩ := fz3 BK937.out
    go_wp2
    go_meet
    case rel => exact ⟨_, (false), (by first | rfl | (simp; done) | (simp [*]; done)), H', ⟨by first | omega | exact Nat.le_refl _⟩, ⟨qF BK937⟩, ⟨qF BK938⟩, ⟨qF BK939⟩, ⟨qF BK940⟩, ⟨qF BK941⟩, ⟨qL HB⟩⟩
  case rest =>
    clear HC5
    obtain ⟨kq, x12_4, rfl, HA, HJ4, BK937, BK938, BK939, BK940, BK941, HB⟩ := hcut
    cases kq with
    | zero => exact absurd HA.out (by simp [spec_l5Touch.j0])
    | succ kj4 => ?_
    have H := HA.out
    clear HA
    simp only [spec_l5Touch.j0] at H
    by_cases c26 : x12_4 = true
    · subst c26
      replace H := qT H
      replace H := qH H
      obtain ⟨⟨t942, t943, t944, t945⟩, A27, H⟩ := H
      try dsimp only at H
      simp only [Option.some.injEq, Prod.mk.injEq] at H
      obtain ⟨rfl, rfl, rfl, rfl⟩ := H
      have hnb28 := NB938_937.out
      have hnc28 := NB937_938.out
      have hnb29 := NB938_939.out
      have hnc29 := NB939_938.out
      have hnb30 := NB938_940.out
      have hnc30 := NB940_938.out
      have hnb31 := NB938_941.out
      have hnc31 := NB941_938.out
      obtain ⟨hcz32_0, hcz32_1⟩ := cz2 BK938.out
      have hfz32_0 := blk_frozen BK938.out 0
      have hfz32_1 := blk_frozen BK938.out 1
      have hnb33 := NB940_937.out
      have hnc33 := NB937_940.out
      have hnb34 := NB940_939.out
      have hnc34 := NB939_940.out
      have hnb35 := NB940_941.out
      have hnc35 := NB941_940.out
      obtain ⟨hcz36_0, hcz36_1⟩ := cz2 BK940.out
      have hfz36_0 := blk_frozen BK940.out 0
      have hfz36_1 := blk_frozen BK940.out 1
      have hnb37 := NB937_939.out
      have hnc37 := NB939_937.out
      have hnb38 := NB937_941.out
      have hnc38 := NB941_937.out
      obtain ⟨hcz39_0, hcz39_1, hcz39_2⟩ := cz3 BK937.out
      obtain ⟨hfz39_0, hfz39_1, hfz39_2⟩ := fz3 BK937.out
      have hnb40 := NB939_941.out
      have hnc40 := NB941_939.out
      obtain ⟨hcz41_0, hcz41_1, hcz41_2⟩ := cz3 BK939.out
      obtain ⟨hfz41_0, hfz41_1, hfz41_2⟩ := fz3 BK939.out
      go_wp2_with (first | ((with_reducible refine gate_callee (f := 90) rfl ?_); refine gl (some 28) Try.func90 #[.agg #[.int .i64 a1_0, .int .i64 a1_1], .agg #[.int .i64 a3_0, .int .i64 a3_1], .int .i64 (wrap64 (a0_1 + a2_1))] ?_; (with_reducible refine (spec_l5Rounds.calls kj4 a1_0 a1_1 a3_0 a3_1 (wrap64 (a0_1 + a2_1)) t942 t943 t944 t945 _ A27.out).mono ?_); rintro e w42 ⟨rfl, hb⟩; refine ⟨_, rfl, ?_⟩; replace BK937 := kBB BK937 hb; replace BK938 := kBB BK938 hb; replace BK939 := kBB BK939 hb; replace BK940 := kBB BK940 hb; replace BK941 := kBB BK941 hb; replace HB := bS HB hb; clear hb; obtain ⟨hcz43_0, hcz43_1, hcz43_2⟩ := cz3 BK941.out; obtain ⟨hfz43_0, hfz43_1, hfz43_2⟩ := fz3 BK941.out))
      refine bodyPost_ret (results_ct rfl _ _ gb941 56 #[.int .i64 t942, .int .i64 t943, .int .i64 t944] (0, 0) _ rfl (qP BK941) Try.underlying56 rfl (by kernel_rfl)) rfl ?_
      exact ⟨qE, qL HB⟩
    replace c26 := Bool.eq_false_iff.mpr c26
    subst c26
    replace H := qU H
    have HC44 := az H
    clear H
    go_upto_region 3 with (fail)
    go_cut [31] (fun v31 wc => ∃ (kq : Nat) (x31_43 : Bool), v31 = .bool x31_43 ∧ Aside0 (spec_l5Touch.j1 kq x31_43 a0_0 a0_1 a0_2 a1_0 a1_1 a2_0 a2_1 a2_2 a3_0 a3_1 = some (r1, r2, r3, r4)) ∧ Aside0 (kq ≤ kj4) ∧ Aside0 (wc.heap[gb937]? = some (.cells #[.int .i64 a0_0, .int .i64 a0_1, .int .i64 a0_2] 38 (0, 0))) ∧ Aside0 (wc.heap[gb938]? = some (.cells #[.int .i64 a1_0, .int .i64 a1_1] 24 (0, 0))) ∧ Aside0 (wc.heap[gb939]? = some (.cells #[.int .i64 a2_0, .int .i64 a2_1, .int .i64 a2_2] 38 (0, 0))) ∧ Aside0 (wc.heap[gb940]? = some (.cells #[.int .i64 a3_0, .int .i64 a3_1] 24 (0, 0))) ∧ Aside0 (wc.heap[gb941]? = some (.cells #[.int .i64 0, .int .i64 0, .int .i64 0] 56 (0, 0))) ∧ Aside0 (Below w.heap.size w wc))
    case first =>
      have H := HC44.out
      clear HC44
      by_cases c45 : a0_0 = 2
      · rw [if_pos c45] at H
        have c45b0 : (a0_0 == 2) = true := beq_iff_eq.mpr c45
        have c45b1 : (a0_0 != 2) = false := bne_eq_false_iff_eq.mpr c45
        clear c45
        (first | rw [c45b0] | (simp only [i64_w, i32_w]; rw [c45b0]) | skip)
        have H' := az H
        clear H
        have hnb46 := NB937_938.out
        have hnc46 := NB938_937.out
        have hnb47 := NB937_939.out
        have hnc47 := NB939_937.out
        have hnb48 := NB937_940.out
        have hnc48 := NB940_937.out
        have hnb49 := NB937_941.out
        have hnc49 := NB941_937.out
        obtain ⟨hcz50_0, hcz50_1, hcz50_2⟩ := cz3 BK937.out
        obtain ⟨hfz50_0, hfz50_1, hfz50_2⟩ := fz3 BK937.out
        have hnb51 := NB939_938.out
        have hnc51 := NB938_939.out
        have hnb52 := NB939_940.out
        have hnc52 := NB940_939.out
        have hnb53 := NB939_941.out
        have hnc53 := NB941_939.out
        obtain ⟨hcz54_0, hcz54_1, hcz54_2⟩ := cz3 BK939.out
        obtain ⟨hfz54_0, hfz54_1, hfz54_2⟩ := fz3 BK939.out
        go_wp2
        go_meet
        case rel => exact ⟨_, ((a2_0 == 2)), (by first | rfl | (simp; done) | (simp [*]; done)), H', ⟨by have := HJ4.out; first | omega | exact Nat.le_refl _⟩, ⟨qF BK937⟩, ⟨qF BK938⟩, ⟨qF BK939⟩, ⟨qF BK940⟩, ⟨qF BK941⟩, ⟨qL HB⟩⟩
      rw [if_neg c45] at H
      have c45b0 : (a0_0 == 2) = false := beq_eq_false_iff_ne.mpr c45
      have c45b1 : (a0_0 != 2) = true := bne_iff_ne.mpr c45
      (first | rw [c45b0] | (simp only [i64_w, i32_w]; rw [c45b0]) | skip)
      have H' := az H
      clear H
      have hnb55 := NB937_938.out
      have hnc55 := NB938_937.out
      have hnb56 := NB937_939.out
      have hnc56 := NB939_937.out
      have hnb57 := NB937_940.out
      have hnc57 := NB940_937.out
      have hnb58 := NB937_941.out
      have hnc58 := NB941_937.out
      obtain ⟨hcz59_0, hcz59_1, hcz59_2⟩ := cz3 BK937.out
      obtain ⟨hfz59_0, hfz59_1, hfz59_2⟩ := fz3 BK937.out
      go_wp2
      go_meet
      case rel => exact ⟨_, (false), (by first | rfl | (simp; done) | (simp [*]; done)), H', ⟨by have := HJ4.out; first | omega | exact Nat.le_refl _⟩, ⟨qF BK937⟩, ⟨qF BK938⟩, ⟨qF BK939⟩, ⟨qF BK940⟩, ⟨qF BK941⟩, ⟨qL HB⟩⟩
    case rest =>
      clear HC44
      (try clear c26)
      obtain ⟨kq, x31_43, rfl, HA, HJ43, BK937, BK938, BK939, BK940, BK941, HB⟩ := hcut
      cases kq with
      | zero => exact absurd HA.out (by simp [spec_l5Touch.j1])
      | succ kj43 => ?_
      have H := HA.out
      clear HA
      simp only [spec_l5Touch.j1] at H
      by_cases c60 : x31_43 = true
      · subst c60
        replace H := qT H
        replace H := qH H
        obtain ⟨⟨t946, t947, t948, t949⟩, A61, H⟩ := H
        try dsimp only at H
        replace H := qH H
        obtain ⟨⟨t950, t951, t952, t953⟩, A62, H⟩ := H
        try dsimp only at H
        replace H := qH H
        obtain ⟨⟨t954, t955, t956, t957⟩, A63, H⟩ := H
        try dsimp only at H
        simp only [Option.some.injEq, Prod.mk.injEq] at H
        obtain ⟨rfl, rfl, rfl, rfl⟩ := H
        try go_wp2
        replace BK937 := az (blk_drew BK937.out)
        replace BK938 := az (blk_drew BK938.out)
        replace BK939 := az (blk_drew BK939.out)
        replace BK940 := az (blk_drew BK940.out)
        replace BK941 := az (blk_drew BK941.out)
        replace HB := az (below_drew1 HB.out)
        refine start_ (n := 11) (S := fun w' => w'.cell? ⟨gb937, 0, none⟩ = some (.int .i64 a0_0) ∧ w'.cell? ⟨gb937, 1, none⟩ = some (.int .i64 a0_1) ∧ w'.cell? ⟨gb937, 2, none⟩ = some (.int .i64 a0_2) ∧ w'.cell? ⟨gb938, 0, none⟩ = some (.int .i64 a1_0) ∧ w'.cell? ⟨gb938, 1, none⟩ = some (.int .i64 a1_1) ∧ w'.cell? ⟨gb939, 0, none⟩ = some (.int .i64 a2_0) ∧ w'.cell? ⟨gb939, 1, none⟩ = some (.int .i64 a2_1) ∧ w'.cell? ⟨gb939, 2, none⟩ = some (.int .i64 a2_2) ∧ w'.cell? ⟨gb940, 0, none⟩ = some (.int .i64 a3_0) ∧ w'.cell? ⟨gb940, 1, none⟩ = some (.int .i64 a3_1)) (ds := []) #[false, false, false, false, false, false, false, false, false, false, false] (by kernel_rfl) rfl rfl ⟨bc BK937 0, bc BK937 1, bc BK937 2, bc BK938 0, bc BK938 1, bc BK939 0, bc BK939 1, bc BK939 2, bc BK940 0, bc BK940 1⟩ (fun hHeld => ?_); refine with_tabW spec_l5Touch.tab4 spec_l5Touch.bits4 (fun HT_ HW_ => ?_)
        generalize wc.drew = w64 at BK937 BK938 BK939 BK940 BK941 HB hHeld ⊢
        refine tk10 0 (some 40) (fl 11 1) HT_ HW_ hHeld ?_
        refine tk10 1 (some 41) (fl 11 3) HT_ HW_ hHeld ?_
        refine tk10 3 (some 43) (fl 11 11) HT_ HW_ hHeld ?_
        refine tk10 4 (some 44) (fl 11 27) HT_ HW_ hHeld ?_
        refine on 2 (some 42) (fl 11 31) HT_ (fun K hK => ?_)
        refine go1 Try.func92 #[.agg #[.int .i64 a0_0, .int .i64 a0_1, .int .i64 a0_2], .agg #[.int .i64 a1_0, .int .i64 a1_1]] ?_
        with_reducible refine (spec_l3Bounds.calls a0_0 a0_1 a0_2 a1_0 a1_1 t946 t947 t948 t949 _ A61.out).mono ?_
        rintro e w65 ⟨rfl, hb⟩
        refine ⟨_, rfl, ?_⟩
        replace BK937 := kBB BK937 hb
        replace BK938 := kBB BK938 hb
        replace BK939 := kBB BK939 hb
        replace BK940 := kBB BK940 hb
        replace BK941 := kBB BK941 hb
        replace HB := bS HB hb
        clear hb
        refine hK.out _ _ ⟨bc BK937 0, bc BK937 1, bc BK937 2, bc BK938 0, bc BK938 1, bc BK939 0, bc BK939 1, bc BK939 2, bc BK940 0, bc BK940 1⟩ (fun hHeld => ?_)
        clear hK K
        refine nm (some 42) ?_
        refine on 5 (some 45) (fl 11 63) HT_ (fun K hK => ?_)
        refine go1 Try.func92 #[.agg #[.int .i64 a2_0, .int .i64 a2_1, .int .i64 a2_2], .agg #[.int .i64 a3_0, .int .i64 a3_1]] ?_
        with_reducible refine (spec_l3Bounds.calls a2_0 a2_1 a2_2 a3_0 a3_1 t950 t951 t952 t953 _ A62.out).mono ?_
        rintro e w66 ⟨rfl, hb⟩
        refine ⟨_, rfl, ?_⟩
        replace BK937 := kBB BK937 hb
        replace BK938 := kBB BK938 hb
        replace BK939 := kBB BK939 hb
        replace BK940 := kBB BK940 hb
        replace BK941 := kBB BK941 hb
        replace HB := bS HB hb
        clear hb
        refine hK.out _ _ ⟨bc BK937 0, bc BK937 1, bc BK937 2, bc BK938 0, bc BK938 1, bc BK939 0, bc BK939 1, bc BK939 2, bc BK940 0, bc BK940 1⟩ (fun hHeld => ?_)
        clear hK K
        refine nm (some 45) ?_
        refine on 6 (some 46) (fl 11 127) HT_ (fun K hK => ?_)
        refine go1 Try.func91 #[.agg #[.int .i64 t946, .int .i64 t947, .int .i64 t948, .int .i64 t949], .agg #[.int .i64 t950, .int .i64 t951, .int .i64 t952, .int .i64 t953]] ?_
        with_reducible refine (spec_l5Boxes.calls kj43 t946 t947 t948 t949 t950 t951 t952 t953 t954 t955 t956 t957 _ A63.out).mono ?_
        rintro e w67 ⟨rfl, hb⟩
        refine ⟨_, rfl, ?_⟩
        replace BK937 := kBB BK937 hb
        replace BK938 := kBB BK938 hb
        replace BK939 := kBB BK939 hb
        replace BK940 := kBB BK940 hb
        replace BK941 := kBB BK941 hb
        replace HB := bS HB hb
        clear hb
        refine hK.out _ _ ⟨bc BK937 0, bc BK937 1, bc BK937 2, bc BK938 0, bc BK938 1, bc BK939 0, bc BK939 1, bc BK939 2, bc BK940 0, bc BK940 1⟩ (fun hHeld => ?_)
        clear hK K
        refine nm (some 46) ?_
        refine pu 7 (some 47) (fl 11 255) HT_ ?_
        refine pu 8 (some 48) (fl 11 511) HT_ ?_
        refine on 9 (none) (fl 11 1023) HT_ (fun K hK => ?_)
        have hs68 : w67.cell? ⟨gb941, 0, none⟩ = some (.int .i64 0) := bc BK941 0
        have hfs68 := blk_frozen BK941.out 0
        have hns68_0 := NB937_941.out
        have hns68_1 := NB938_941.out
        have hns68_2 := NB939_941.out
        have hns68_3 := NB940_941.out
        have hms68_0 := NB941_937.out
        have hms68_1 := NB941_938.out
        have hms68_2 := NB941_939.out
        have hms68_3 := NB941_940.out
        have hs69 : w67.cell? ⟨gb941, 1, none⟩ = some (.int .i64 0) := bc BK941 1
        have hfs69 := blk_frozen BK941.out 1
        have hns69_0 := NB937_941.out
        have hns69_1 := NB938_941.out
        have hns69_2 := NB939_941.out
        have hns69_3 := NB940_941.out
        have hms69_0 := NB941_937.out
        have hms69_1 := NB941_938.out
        have hms69_2 := NB941_939.out
        have hms69_3 := NB941_940.out
        have hs70 : w67.cell? ⟨gb941, 2, none⟩ = some (.int .i64 0) := bc BK941 2
        have hfs70 := blk_frozen BK941.out 2
        have hns70_0 := NB937_941.out
        have hns70_1 := NB938_941.out
        have hns70_2 := NB939_941.out
        have hns70_3 := NB940_941.out
        have hms70_0 := NB941_937.out
        have hms70_1 := NB941_938.out
        have hms70_2 := NB941_939.out
        have hms70_3 := NB941_940.out
        refine skip_ (w1 := ?_) ?hw ?hn ?_ ?_; (case hw => unfold Region.wanted; rfl); (case hn => rfl)
        rotate_left
        · go_simp
          rfl
        refine hK.out _ _ ⟨(cf NB937_941 ((cf NB937_941 ((cf NB937_941 (hHeld.1)))))), (cf NB937_941 ((cf NB937_941 ((cf NB937_941 (hHeld.2.1)))))), (cf NB937_941 ((cf NB937_941 ((cf NB937_941 (hHeld.2.2.1)))))), (cf NB938_941 ((cf NB938_941 ((cf NB938_941 (hHeld.2.2.2.1)))))), (cf NB938_941 ((cf NB938_941 ((cf NB938_941 (hHeld.2.2.2.2.1)))))), (cf NB939_941 ((cf NB939_941 ((cf NB939_941 (hHeld.2.2.2.2.2.1)))))), (cf NB939_941 ((cf NB939_941 ((cf NB939_941 (hHeld.2.2.2.2.2.2.1)))))), (cf NB939_941 ((cf NB939_941 ((cf NB939_941 (hHeld.2.2.2.2.2.2.2.1)))))), (cf NB940_941 ((cf NB940_941 ((cf NB940_941 (hHeld.2.2.2.2.2.2.2.2.1)))))), (cf NB940_941 ((cf NB940_941 ((cf NB940_941 (hHeld.2.2.2.2.2.2.2.2.2))))))⟩ (fun hHeld => ?_)
        clear hK K
        refine pu 10 (some 9) (fl 11 2047) HT_ ?_
        refine done_ (done_of HT_.out (by kernel_rfl)) ?_
        try go_wp2
        refine bodyPost_ret (results_ct rfl _ _ gb941 56 #[.int .i64 t954, .int .i64 t955, .int .i64 t956] (0, 0) _ rfl (qP BK941) Try.underlying56 rfl (by kernel_rfl)) rfl ?_
        exact ⟨qE, qL HB⟩
      replace c60 := Bool.eq_false_iff.mpr c60
      subst c60
      replace H := qU H
      by_cases c71 : a0_0 = 2
      · rw [if_pos c71] at H
        have c71b0 : (a0_0 == 2) = true := beq_iff_eq.mpr c71
        have c71b1 : (a0_0 != 2) = false := bne_eq_false_iff_eq.mpr c71
        clear c71
        replace H := qH H
        obtain ⟨⟨t958, t959, t960, t961⟩, A72, H⟩ := H
        try dsimp only at H
        replace H := qH H
        obtain ⟨⟨t962, t963, t964, t965⟩, A73, H⟩ := H
        try dsimp only at H
        simp only [Option.some.injEq, Prod.mk.injEq] at H
        obtain ⟨rfl, rfl, rfl, rfl⟩ := H
        have hnb74 := NB937_938.out
        have hnc74 := NB938_937.out
        have hnb75 := NB937_939.out
        have hnc75 := NB939_937.out
        have hnb76 := NB937_940.out
        have hnc76 := NB940_937.out
        have hnb77 := NB937_941.out
        have hnc77 := NB941_937.out
        obtain ⟨hcz78_0, hcz78_1, hcz78_2⟩ := cz3 BK937.out
        obtain ⟨hfz78_0, hfz78_1, hfz78_2⟩ := fz3 BK937.out
        try go_wp2
        replace BK937 := az (blk_drew BK937.out)
        replace BK938 := az (blk_drew BK938.out)
        replace BK939 := az (blk_drew BK939.out)
        replace BK940 := az (blk_drew BK940.out)
        replace BK941 := az (blk_drew BK941.out)
        replace HB := az (below_drew1 HB.out)
        refine start_ (n := 11) (S := fun w' => w'.cell? ⟨gb937, 0, none⟩ = some (.int .i64 a0_0) ∧ w'.cell? ⟨gb937, 1, none⟩ = some (.int .i64 a0_1) ∧ w'.cell? ⟨gb937, 2, none⟩ = some (.int .i64 a0_2) ∧ w'.cell? ⟨gb938, 0, none⟩ = some (.int .i64 a1_0) ∧ w'.cell? ⟨gb938, 1, none⟩ = some (.int .i64 a1_1) ∧ w'.cell? ⟨gb940, 0, none⟩ = some (.int .i64 a3_0) ∧ w'.cell? ⟨gb940, 1, none⟩ = some (.int .i64 a3_1) ∧ w'.cell? ⟨gb939, 0, none⟩ = some (.int .i64 a2_0) ∧ w'.cell? ⟨gb939, 1, none⟩ = some (.int .i64 a2_1) ∧ w'.cell? ⟨gb939, 2, none⟩ = some (.int .i64 a2_2)) (ds := []) #[false, false, false, false, false, false, false, false, false, false, false] (by kernel_rfl) rfl rfl ⟨bc BK937 0, bc BK937 1, bc BK937 2, bc BK938 0, bc BK938 1, bc BK940 0, bc BK940 1, bc BK939 0, bc BK939 1, bc BK939 2⟩ (fun hHeld => ?_); refine with_tabW spec_l5Touch.tab6 spec_l5Touch.bits6 (fun HT_ HW_ => ?_)
        generalize wc.drew = w79 at BK937 BK938 BK939 BK940 BK941 HB hHeld ⊢
        refine pu 4 (some 57) (fl 11 16) HT_ ?_
        refine tk10 0 (some 53) (fl 11 17) HT_ HW_ hHeld ?_
        refine tk10 1 (some 54) (fl 11 19) HT_ HW_ hHeld ?_
        refine tk10 3 (some 56) (fl 11 27) HT_ HW_ hHeld ?_
        refine tk10 5 (some 58) (fl 11 59) HT_ HW_ hHeld ?_
        refine on 2 (some 55) (fl 11 63) HT_ (fun K hK => ?_)
        refine go1 Try.func92 #[.agg #[.int .i64 a0_0, .int .i64 a0_1, .int .i64 a0_2], .agg #[.int .i64 a1_0, .int .i64 a1_1]] ?_
        with_reducible refine (spec_l3Bounds.calls a0_0 a0_1 a0_2 a1_0 a1_1 t958 t959 t960 t961 _ A72.out).mono ?_
        rintro e w80 ⟨rfl, hb⟩
        refine ⟨_, rfl, ?_⟩
        replace BK937 := kBB BK937 hb
        replace BK938 := kBB BK938 hb
        replace BK939 := kBB BK939 hb
        replace BK940 := kBB BK940 hb
        replace BK941 := kBB BK941 hb
        replace HB := bS HB hb
        clear hb
        refine hK.out _ _ ⟨bc BK937 0, bc BK937 1, bc BK937 2, bc BK938 0, bc BK938 1, bc BK940 0, bc BK940 1, bc BK939 0, bc BK939 1, bc BK939 2⟩ (fun hHeld => ?_)
        clear hK K
        refine nm (some 55) ?_
        refine on 6 (some 59) (fl 11 127) HT_ (fun K hK => ?_)
        refine go1 Try.func93 #[.agg #[.int .i64 t958, .int .i64 t959, .int .i64 t960, .int .i64 t961], .agg #[.int .i64 a3_0, .int .i64 a3_1], .int .i64 a2_1] ?_
        with_reducible refine (spec_l5Mixed.calls kj43 t958 t959 t960 t961 a3_0 a3_1 a2_1 t962 t963 t964 t965 _ A73.out).mono ?_
        rintro e w81 ⟨rfl, hb⟩
        refine ⟨_, rfl, ?_⟩
        replace BK937 := kBB BK937 hb
        replace BK938 := kBB BK938 hb
        replace BK939 := kBB BK939 hb
        replace BK940 := kBB BK940 hb
        replace BK941 := kBB BK941 hb
        replace HB := bS HB hb
        clear hb
        refine hK.out _ _ ⟨bc BK937 0, bc BK937 1, bc BK937 2, bc BK938 0, bc BK938 1, bc BK940 0, bc BK940 1, bc BK939 0, bc BK939 1, bc BK939 2⟩ (fun hHeld => ?_)
        clear hK K
        refine nm (some 59) ?_
        refine pu 7 (some 60) (fl 11 255) HT_ ?_
        refine pu 8 (some 61) (fl 11 511) HT_ ?_
        refine on 9 (none) (fl 11 1023) HT_ (fun K hK => ?_)
        have hs82 : w81.cell? ⟨gb941, 0, none⟩ = some (.int .i64 0) := bc BK941 0
        have hfs82 := blk_frozen BK941.out 0
        have hns82_0 := NB937_941.out
        have hns82_1 := NB938_941.out
        have hns82_2 := NB939_941.out
        have hns82_3 := NB940_941.out
        have hms82_0 := NB941_937.out
        have hms82_1 := NB941_938.out
        have hms82_2 := NB941_939.out
        have hms82_3 := NB941_940.out
        have hs83 : w81.cell? ⟨gb941, 1, none⟩ = some (.int .i64 0) := bc BK941 1
        have hfs83 := blk_frozen BK941.out 1
        have hns83_0 := NB937_941.out
        have hns83_1 := NB938_941.out
        have hns83_2 := NB939_941.out
        have hns83_3 := NB940_941.out
        have hms83_0 := NB941_937.out
        have hms83_1 := NB941_938.out
        have hms83_2 := NB941_939.out
        have hms83_3 := NB941_940.out
        have hs84 : w81.cell? ⟨gb941, 2, none⟩ = some (.int .i64 0) := bc BK941 2
        have hfs84 := blk_frozen BK941.out 2
        have hns84_0 := NB937_941.out
        have hns84_1 := NB938_941.out
        have hns84_2 := NB939_941.out
        have hns84_3 := NB940_941.out
        have hms84_0 := NB941_937.out
        have hms84_1 := NB941_938.out
        have hms84_2 := NB941_939.out
        have hms84_3 := NB941_940.out
        refine skip_ (w1 := ?_) ?hw ?hn ?_ ?_; (case hw => unfold Region.wanted; rfl); (case hn => rfl)
        rotate_left
        · go_simp
          rfl
        refine hK.out _ _ ⟨(cf NB937_941 ((cf NB937_941 ((cf NB937_941 (hHeld.1)))))), (cf NB937_941 ((cf NB937_941 ((cf NB937_941 (hHeld.2.1)))))), (cf NB937_941 ((cf NB937_941 ((cf NB937_941 (hHeld.2.2.1)))))), (cf NB938_941 ((cf NB938_941 ((cf NB938_941 (hHeld.2.2.2.1)))))), (cf NB938_941 ((cf NB938_941 ((cf NB938_941 (hHeld.2.2.2.2.1)))))), (cf NB940_941 ((cf NB940_941 ((cf NB940_941 (hHeld.2.2.2.2.2.1)))))), (cf NB940_941 ((cf NB940_941 ((cf NB940_941 (hHeld.2.2.2.2.2.2.1)))))), (cf NB939_941 ((cf NB939_941 ((cf NB939_941 (hHeld.2.2.2.2.2.2.2.1)))))), (cf NB939_941 ((cf NB939_941 ((cf NB939_941 (hHeld.2.2.2.2.2.2.2.2.1)))))), (cf NB939_941 ((cf NB939_941 ((cf NB939_941 (hHeld.2.2.2.2.2.2.2.2.2))))))⟩ (fun hHeld => ?_)
        clear hK K
        refine pu 10 (some 9) (fl 11 2047) HT_ ?_
        refine done_ (done_of HT_.out (by kernel_rfl)) ?_
        try go_wp2
        refine bodyPost_ret (results_ct rfl _ _ gb941 56 #[.int .i64 t962, .int .i64 t963, .int .i64 t964] (0, 0) _ rfl (qP BK941) Try.underlying56 rfl (by kernel_rfl)) rfl ?_
        exact ⟨qE, qL HB⟩
      rw [if_neg c71] at H
      have c71b0 : (a0_0 == 2) = false := beq_eq_false_iff_ne.mpr c71
      have c71b1 : (a0_0 != 2) = true := bne_iff_ne.mpr c71
      replace H := qH H
      obtain ⟨⟨t966, t967, t968, t969⟩, A85, H⟩ := H
      try dsimp only at H
      replace H := qH H
      obtain ⟨⟨t970, t971, t972, t973⟩, A86, H⟩ := H
      try dsimp only at H
      by_cases c87 : t973 = true
      · subst c87
        replace H := qT H
        replace H := qH H
        obtain ⟨⟨t975, t976, t977⟩, A88, H⟩ := H
        try dsimp only at H
        simp only [Option.some.injEq, Prod.mk.injEq] at H
        obtain ⟨rfl, rfl, rfl, rfl⟩ := H
        have hnb89 := NB937_938.out
        have hnc89 := NB938_937.out
        have hnb90 := NB937_939.out
        have hnc90 := NB939_937.out
        have hnb91 := NB937_940.out
        have hnc91 := NB940_937.out
        have hnb92 := NB937_941.out
        have hnc92 := NB941_937.out
        obtain ⟨hcz93_0, hcz93_1, hcz93_2⟩ := cz3 BK937.out
        obtain ⟨hfz93_0, hfz93_1, hfz93_2⟩ := fz3 BK937.out
        try go_wp2
        replace BK937 := az (blk_drew BK937.out)
        replace BK938 := az (blk_drew BK938.out)
        replace BK939 := az (blk_drew BK939.out)
        replace BK940 := az (blk_drew BK940.out)
        replace BK941 := az (blk_drew BK941.out)
        replace HB := az (below_drew1 HB.out)
        refine start_ (n := 13) (S := fun w' => w'.cell? ⟨gb939, 0, none⟩ = some (.int .i64 a2_0) ∧ w'.cell? ⟨gb939, 1, none⟩ = some (.int .i64 a2_1) ∧ w'.cell? ⟨gb939, 2, none⟩ = some (.int .i64 a2_2) ∧ w'.cell? ⟨gb940, 0, none⟩ = some (.int .i64 a3_0) ∧ w'.cell? ⟨gb940, 1, none⟩ = some (.int .i64 a3_1) ∧ w'.cell? ⟨gb938, 0, none⟩ = some (.int .i64 a1_0) ∧ w'.cell? ⟨gb938, 1, none⟩ = some (.int .i64 a1_1) ∧ w'.cell? ⟨gb937, 0, none⟩ = some (.int .i64 a0_0) ∧ w'.cell? ⟨gb937, 1, none⟩ = some (.int .i64 a0_1) ∧ w'.cell? ⟨gb937, 2, none⟩ = some (.int .i64 a0_2)) (ds := []) #[false, false, false, false, false, false, false, false, false, false, false, false, false] (by kernel_rfl) rfl rfl ⟨bc BK939 0, bc BK939 1, bc BK939 2, bc BK940 0, bc BK940 1, bc BK938 0, bc BK938 1, bc BK937 0, bc BK937 1, bc BK937 2⟩ (fun hHeld => ?_); refine with_tabW spec_l5Touch.tab7 spec_l5Touch.bits7 (fun HT_ HW_ => ?_)
        generalize wc.drew = w94 at BK937 BK938 BK939 BK940 BK941 HB hHeld ⊢
        refine pu 4 (some 67) (fl 13 16) HT_ ?_
        refine tk10 0 (some 63) (fl 13 17) HT_ HW_ hHeld ?_
        refine tk10 1 (some 64) (fl 13 19) HT_ HW_ hHeld ?_
        refine tk10 3 (some 66) (fl 13 27) HT_ HW_ hHeld ?_
        refine tk10 5 (some 68) (fl 13 59) HT_ HW_ hHeld ?_
        refine join_ (σ := Nat) 2 (fl 13 2047) (fun s_ => [(65, .agg #[.int .i64 t966, .int .i64 t967, .int .i64 t968, .int .i64 t969]), (69, .tuple #[.agg #[.int .i64 t970, .int .i64 t971, .int .i64 t972], .bool true]), (10, .pointer (some ⟨s_, 0, none⟩)), (62, .tuple #[.agg #[.int .i64 t970, .int .i64 t971, .int .i64 t972], .bool true]), (70, .agg #[.int .i64 t970, .int .i64 t971, .int .i64 t972]), (71, .bool true)]) (fun s_ w' => (w'.cell? ⟨gb939, 0, none⟩ = some (.int .i64 a2_0) ∧ w'.cell? ⟨gb939, 1, none⟩ = some (.int .i64 a2_1) ∧ w'.cell? ⟨gb939, 2, none⟩ = some (.int .i64 a2_2) ∧ w'.cell? ⟨gb940, 0, none⟩ = some (.int .i64 a3_0) ∧ w'.cell? ⟨gb940, 1, none⟩ = some (.int .i64 a3_1) ∧ w'.cell? ⟨gb938, 0, none⟩ = some (.int .i64 a1_0) ∧ w'.cell? ⟨gb938, 1, none⟩ = some (.int .i64 a1_1) ∧ w'.cell? ⟨gb937, 0, none⟩ = some (.int .i64 a0_0) ∧ w'.cell? ⟨gb937, 1, none⟩ = some (.int .i64 a0_1) ∧ w'.cell? ⟨gb937, 2, none⟩ = some (.int .i64 a0_2)) ∧ (w'.heap[gb937]? = some (.cells #[.int .i64 a0_0, .int .i64 a0_1, .int .i64 a0_2] 38 (0, 0))) ∧ (w'.heap[gb938]? = some (.cells #[.int .i64 a1_0, .int .i64 a1_1] 24 (0, 0))) ∧ (w'.heap[gb939]? = some (.cells #[.int .i64 a2_0, .int .i64 a2_1, .int .i64 a2_2] 38 (0, 0))) ∧ (w'.heap[gb940]? = some (.cells #[.int .i64 a3_0, .int .i64 a3_1] 24 (0, 0))) ∧ (w'.heap[gb941]? = some (.cells #[.int .i64 0, .int .i64 0, .int .i64 0] 56 (0, 0))) ∧ (w'.heap[s_]? = some (.cells #[.int .i64 0, .int .i64 0, .int .i64 0] 56 (0, 0))) ∧ (w.heap.size ≤ s_) ∧ (w.heap.size ≤ s_) ∧ (gb937 ≠ s_) ∧ (s_ ≠ gb937) ∧ (gb938 ≠ s_) ∧ (s_ ≠ gb938) ∧ (gb939 ≠ s_) ∧ (s_ ≠ gb939) ∧ (gb940 ≠ s_) ∧ (s_ ≠ gb940) ∧ (gb941 ≠ s_) ∧ (s_ ≠ gb941) ∧ (Below w.heap.size w w')) ?_ ?_
        rotate_left
        · intro hCont
          refine two_ (i := 2) (j := 10) (Ni := some 65) (Nj := some 10) (fl 13 63) (fl 13 1083) rfl rfl rfl rfl (two_of HT_.out (by kernel_rfl)) (by decide) (by decide) (fun K hK => ?_) (fun K hK => ?_)
          · skip
            refine go1 Try.func92 #[.agg #[.int .i64 a2_0, .int .i64 a2_1, .int .i64 a2_2], .agg #[.int .i64 a3_0, .int .i64 a3_1]] ?_
            with_reducible refine (spec_l3Bounds.calls a2_0 a2_1 a2_2 a3_0 a3_1 t966 t967 t968 t969 _ A85.out).mono ?_
            rintro e w95 ⟨rfl, hb⟩
            refine ⟨_, rfl, ?_⟩
            replace BK937 := kBB BK937 hb
            replace BK938 := kBB BK938 hb
            replace BK939 := kBB BK939 hb
            replace BK940 := kBB BK940 hb
            replace BK941 := kBB BK941 hb
            replace HB := bS HB hb
            clear hb
            refine hK.out _ _ ⟨bc BK939 0, bc BK939 1, bc BK939 2, bc BK940 0, bc BK940 1, bc BK938 0, bc BK938 1, bc BK937 0, bc BK937 1, bc BK937 2⟩ (fun hHeld => ?_)
            clear hK K
            refine nm (some 65) ?_
            refine two_ (i := 6) (j := 10) (Ni := some 69) (Nj := some 10) (fl 13 127) (fl 13 1087) rfl rfl rfl rfl (two_of HT_.out (by kernel_rfl)) (by decide) (by decide) (fun K hK => ?_) (fun K hK => ?_)
            · skip
              refine go1 Try.func93 #[.agg #[.int .i64 t966, .int .i64 t967, .int .i64 t968, .int .i64 t969], .agg #[.int .i64 a1_0, .int .i64 a1_1], .int .i64 a0_1] ?_
              with_reducible refine (spec_l5Mixed.calls kj43 t966 t967 t968 t969 a1_0 a1_1 a0_1 t970 t971 t972 true _ A86.out).mono ?_
              rintro e w96 ⟨rfl, hb⟩
              refine ⟨_, rfl, ?_⟩
              replace BK937 := kBB BK937 hb
              replace BK938 := kBB BK938 hb
              replace BK939 := kBB BK939 hb
              replace BK940 := kBB BK940 hb
              replace BK941 := kBB BK941 hb
              replace HB := bS HB hb
              clear hb
              refine hK.out _ _ ⟨bc BK939 0, bc BK939 1, bc BK939 2, bc BK940 0, bc BK940 1, bc BK938 0, bc BK938 1, bc BK937 0, bc BK937 1, bc BK937 2⟩ (fun hHeld => ?_)
              clear hK K
              refine nm (some 69) ?_
              refine pu 7 (some 62) (fl 13 255) HT_ ?_
              refine pu 8 (some 70) (fl 13 511) HT_ ?_
              refine pu 9 (some 71) (fl 13 1023) HT_ ?_
              refine on 10 (some 10) (fl 13 2047) HT_ (fun K hK => ?_)
              refine box_step ?hg (N := 10) ?hd (cs := #[.int .i64 0, .int .i64 0, .int .i64 0]) (t := 56) ?hr ?_; (case hd => rfl); (case hg => rfl); (case hr => first | (go_simp; done) | (go_simp; rfl))
              intro gb974 hg w97 hbox hb
              have BK974 := az hbox
              have GW974 := az ((gE hg (qL HB) : w.heap.size ≤ gb974))
              have GE974 := GW974
              obtain ⟨NB937_974, NB974_937⟩ := nPB BK937 hg
              obtain ⟨NB938_974, NB974_938⟩ := nPB BK938 hg
              obtain ⟨NB939_974, NB974_939⟩ := nPB BK939 hg
              obtain ⟨NB940_974, NB974_940⟩ := nPB BK940 hg
              obtain ⟨NB941_974, NB974_941⟩ := nPB BK941 hg
              replace BK937 := kBB BK937 hb
              replace BK938 := kBB BK938 hb
              replace BK939 := kBB BK939 hb
              replace BK940 := kBB BK940 hb
              replace BK941 := kBB BK941 hb
              replace HB := bS HB hb
              clear hb hbox hg
              refine hK.out _ _ ⟨bc BK939 0, bc BK939 1, bc BK939 2, bc BK940 0, bc BK940 1, bc BK938 0, bc BK938 1, bc BK937 0, bc BK937 1, bc BK937 2⟩ (fun hHeld => ?_)
              clear hK K
              refine nm (some 10) ?_
              exact nrm (hCont (gb974) _ ⟨hHeld, (qB BK937), (qB BK938), (qB BK939), (qB BK940), (qB BK941), (qB BK974), GW974.out, GE974.out, NB937_974.out, NB974_937.out, NB938_974.out, NB974_938.out, NB939_974.out, NB974_939.out, NB940_974.out, NB974_940.out, NB941_974.out, NB974_941.out, (qL HB)⟩)
            skip
            refine box_step ?hg (N := 10) ?hd (cs := #[.int .i64 0, .int .i64 0, .int .i64 0]) (t := 56) ?hr ?_; (case hd => rfl); (case hg => rfl); (case hr => first | (go_simp; done) | (go_simp; rfl))
            intro gb974 hg w96 hbox hb
            have BK974 := az hbox
            have GW974 := az ((gE hg (qL HB) : w.heap.size ≤ gb974))
            have GE974 := GW974
            obtain ⟨NB937_974, NB974_937⟩ := nPB BK937 hg
            obtain ⟨NB938_974, NB974_938⟩ := nPB BK938 hg
            obtain ⟨NB939_974, NB974_939⟩ := nPB BK939 hg
            obtain ⟨NB940_974, NB974_940⟩ := nPB BK940 hg
            obtain ⟨NB941_974, NB974_941⟩ := nPB BK941 hg
            replace BK937 := kBB BK937 hb
            replace BK938 := kBB BK938 hb
            replace BK939 := kBB BK939 hb
            replace BK940 := kBB BK940 hb
            replace BK941 := kBB BK941 hb
            replace HB := bS HB hb
            clear hb hbox hg
            refine hK.out _ _ ⟨bc BK939 0, bc BK939 1, bc BK939 2, bc BK940 0, bc BK940 1, bc BK938 0, bc BK938 1, bc BK937 0, bc BK937 1, bc BK937 2⟩ (fun hHeld => ?_)
            clear hK K
            refine nm (some 10) ?_
            refine on 6 (some 69) (fl 13 1151) HT_ (fun K hK => ?_)
            refine go1 Try.func93 #[.agg #[.int .i64 t966, .int .i64 t967, .int .i64 t968, .int .i64 t969], .agg #[.int .i64 a1_0, .int .i64 a1_1], .int .i64 a0_1] ?_
            with_reducible refine (spec_l5Mixed.calls kj43 t966 t967 t968 t969 a1_0 a1_1 a0_1 t970 t971 t972 true _ A86.out).mono ?_
            rintro e w97 ⟨rfl, hb⟩
            refine ⟨_, rfl, ?_⟩
            replace BK937 := kBB BK937 hb
            replace BK938 := kBB BK938 hb
            replace BK939 := kBB BK939 hb
            replace BK940 := kBB BK940 hb
            replace BK941 := kBB BK941 hb
            replace BK974 := kBB BK974 hb
            replace HB := bS HB hb
            clear hb
            refine hK.out _ _ ⟨bc BK939 0, bc BK939 1, bc BK939 2, bc BK940 0, bc BK940 1, bc BK938 0, bc BK938 1, bc BK937 0, bc BK937 1, bc BK937 2⟩ (fun hHeld => ?_)
            clear hK K
            refine nm (some 69) ?_
            refine pu 7 (some 62) (fl 13 1279) HT_ ?_
            refine pu 8 (some 70) (fl 13 1535) HT_ ?_
            refine pu 9 (some 71) (fl 13 2047) HT_ ?_
            exact nrm (hCont (gb974) _ ⟨hHeld, (qB BK937), (qB BK938), (qB BK939), (qB BK940), (qB BK941), (qB BK974), GW974.out, GE974.out, NB937_974.out, NB974_937.out, NB938_974.out, NB974_938.out, NB939_974.out, NB974_939.out, NB940_974.out, NB974_940.out, NB941_974.out, NB974_941.out, (qL HB)⟩)
          skip
          refine box_step ?hg (N := 10) ?hd (cs := #[.int .i64 0, .int .i64 0, .int .i64 0]) (t := 56) ?hr ?_; (case hd => rfl); (case hg => rfl); (case hr => first | (go_simp; done) | (go_simp; rfl))
          intro gb974 hg w95 hbox hb
          have BK974 := az hbox
          have GW974 := az ((gE hg (qL HB) : w.heap.size ≤ gb974))
          have GE974 := GW974
          obtain ⟨NB937_974, NB974_937⟩ := nPB BK937 hg
          obtain ⟨NB938_974, NB974_938⟩ := nPB BK938 hg
          obtain ⟨NB939_974, NB974_939⟩ := nPB BK939 hg
          obtain ⟨NB940_974, NB974_940⟩ := nPB BK940 hg
          obtain ⟨NB941_974, NB974_941⟩ := nPB BK941 hg
          replace BK937 := kBB BK937 hb
          replace BK938 := kBB BK938 hb
          replace BK939 := kBB BK939 hb
          replace BK940 := kBB BK940 hb
          replace BK941 := kBB BK941 hb
          replace HB := bS HB hb
          clear hb hbox hg
          refine hK.out _ _ ⟨bc BK939 0, bc BK939 1, bc BK939 2, bc BK940 0, bc BK940 1, bc BK938 0, bc BK938 1, bc BK937 0, bc BK937 1, bc BK937 2⟩ (fun hHeld => ?_)
          clear hK K
          refine nm (some 10) ?_
          refine on 2 (some 65) (fl 13 1087) HT_ (fun K hK => ?_)
          refine go1 Try.func92 #[.agg #[.int .i64 a2_0, .int .i64 a2_1, .int .i64 a2_2], .agg #[.int .i64 a3_0, .int .i64 a3_1]] ?_
          with_reducible refine (spec_l3Bounds.calls a2_0 a2_1 a2_2 a3_0 a3_1 t966 t967 t968 t969 _ A85.out).mono ?_
          rintro e w96 ⟨rfl, hb⟩
          refine ⟨_, rfl, ?_⟩
          replace BK937 := kBB BK937 hb
          replace BK938 := kBB BK938 hb
          replace BK939 := kBB BK939 hb
          replace BK940 := kBB BK940 hb
          replace BK941 := kBB BK941 hb
          replace BK974 := kBB BK974 hb
          replace HB := bS HB hb
          clear hb
          refine hK.out _ _ ⟨bc BK939 0, bc BK939 1, bc BK939 2, bc BK940 0, bc BK940 1, bc BK938 0, bc BK938 1, bc BK937 0, bc BK937 1, bc BK937 2⟩ (fun hHeld => ?_)
          clear hK K
          refine nm (some 65) ?_
          refine on 6 (some 69) (fl 13 1151) HT_ (fun K hK => ?_)
          refine go1 Try.func93 #[.agg #[.int .i64 t966, .int .i64 t967, .int .i64 t968, .int .i64 t969], .agg #[.int .i64 a1_0, .int .i64 a1_1], .int .i64 a0_1] ?_
          with_reducible refine (spec_l5Mixed.calls kj43 t966 t967 t968 t969 a1_0 a1_1 a0_1 t970 t971 t972 true _ A86.out).mono ?_
          rintro e w97 ⟨rfl, hb⟩
          refine ⟨_, rfl, ?_⟩
          replace BK937 := kBB BK937 hb
          replace BK938 := kBB BK938 hb
          replace BK939 := kBB BK939 hb
          replace BK940 := kBB BK940 hb
          replace BK941 := kBB BK941 hb
          replace BK974 := kBB BK974 hb
          replace HB := bS HB hb
          clear hb
          refine hK.out _ _ ⟨bc BK939 0, bc BK939 1, bc BK939 2, bc BK940 0, bc BK940 1, bc BK938 0, bc BK938 1, bc BK937 0, bc BK937 1, bc BK937 2⟩ (fun hHeld => ?_)
          clear hK K
          refine nm (some 69) ?_
          refine pu 7 (some 62) (fl 13 1279) HT_ ?_
          refine pu 8 (some 70) (fl 13 1535) HT_ ?_
          refine pu 9 (some 71) (fl 13 2047) HT_ ?_
          exact nrm (hCont (gb974) _ ⟨hHeld, (qB BK937), (qB BK938), (qB BK939), (qB BK940), (qB BK941), (qB BK974), GW974.out, GE974.out, NB937_974.out, NB974_937.out, NB938_974.out, NB974_938.out, NB939_974.out, NB974_939.out, NB940_974.out, NB974_940.out, NB941_974.out, NB974_941.out, (qL HB)⟩)
        rintro gb974 w98 ⟨hS_, h0_, h1_, h2_, h3_, h4_, h5_, h6_, h7_, h8_, h9_, h10_, h11_, h12_, h13_, h14_, h15_, h16_, h17_, h18_⟩
        have BK974 := az h5_
        have GW974 := az h6_
        have GE974 := az h7_
        have NB937_974 := az h8_
        have NB974_937 := az h9_
        have NB938_974 := az h10_
        have NB974_938 := az h11_
        have NB939_974 := az h12_
        have NB974_939 := az h13_
        have NB940_974 := az h14_
        have NB974_940 := az h15_
        have NB941_974 := az h16_
        have NB974_941 := az h17_
        replace BK937 := az h0_
        replace BK938 := az h1_
        replace BK939 := az h2_
        replace BK940 := az h3_
        replace BK941 := az h4_
        replace HB := az h18_
        clear h0_ h1_ h2_ h3_ h4_ h5_ h6_ h7_ h8_ h9_ h10_ h11_ h12_ h13_ h14_ h15_ h16_ h17_ h18_
        have hHeld := hS_
        refine nmp ?_
        refine on 11 (none) (fl 13 4095) HT_ (fun K hK => ?_)
        have hs99 : w98.cell? ⟨gb974, 0, none⟩ = some (.int .i64 0) := bc BK974 0
        have hfs99 := blk_frozen BK974.out 0
        have hns99_0 := NB937_974.out
        have hns99_1 := NB938_974.out
        have hns99_2 := NB939_974.out
        have hns99_3 := NB940_974.out
        have hns99_4 := NB941_974.out
        have hms99_0 := NB974_937.out
        have hms99_1 := NB974_938.out
        have hms99_2 := NB974_939.out
        have hms99_3 := NB974_940.out
        have hms99_4 := NB974_941.out
        have hs100 : w98.cell? ⟨gb974, 1, none⟩ = some (.int .i64 0) := bc BK974 1
        have hfs100 := blk_frozen BK974.out 1
        have hns100_0 := NB937_974.out
        have hns100_1 := NB938_974.out
        have hns100_2 := NB939_974.out
        have hns100_3 := NB940_974.out
        have hns100_4 := NB941_974.out
        have hms100_0 := NB974_937.out
        have hms100_1 := NB974_938.out
        have hms100_2 := NB974_939.out
        have hms100_3 := NB974_940.out
        have hms100_4 := NB974_941.out
        have hs101 : w98.cell? ⟨gb974, 2, none⟩ = some (.int .i64 0) := bc BK974 2
        have hfs101 := blk_frozen BK974.out 2
        have hns101_0 := NB937_974.out
        have hns101_1 := NB938_974.out
        have hns101_2 := NB939_974.out
        have hns101_3 := NB940_974.out
        have hns101_4 := NB941_974.out
        have hms101_0 := NB974_937.out
        have hms101_1 := NB974_938.out
        have hms101_2 := NB974_939.out
        have hms101_3 := NB974_940.out
        have hms101_4 := NB974_941.out
        refine skip_ (w1 := ?_) ?hw ?hn ?_ ?_; (case hw => unfold Region.wanted; rfl); (case hn => rfl)
        rotate_left
        · go_simp
          rfl
        refine hK.out _ _ ⟨(cf NB939_974 ((cf NB939_974 ((cf NB939_974 (hHeld.1)))))), (cf NB939_974 ((cf NB939_974 ((cf NB939_974 (hHeld.2.1)))))), (cf NB939_974 ((cf NB939_974 ((cf NB939_974 (hHeld.2.2.1)))))), (cf NB940_974 ((cf NB940_974 ((cf NB940_974 (hHeld.2.2.2.1)))))), (cf NB940_974 ((cf NB940_974 ((cf NB940_974 (hHeld.2.2.2.2.1)))))), (cf NB938_974 ((cf NB938_974 ((cf NB938_974 (hHeld.2.2.2.2.2.1)))))), (cf NB938_974 ((cf NB938_974 ((cf NB938_974 (hHeld.2.2.2.2.2.2.1)))))), (cf NB937_974 ((cf NB937_974 ((cf NB937_974 (hHeld.2.2.2.2.2.2.2.1)))))), (cf NB937_974 ((cf NB937_974 ((cf NB937_974 (hHeld.2.2.2.2.2.2.2.2.1)))))), (cf NB937_974 ((cf NB937_974 ((cf NB937_974 (hHeld.2.2.2.2.2.2.2.2.2))))))⟩ (fun hHeld => ?_)
        clear hK K
        refine pu 12 (some 11) (fl 13 8191) HT_ ?_
        refine done_ (done_of HT_.out (by kernel_rfl)) ?_
        have hnb102 := NB974_937.out
        have hnc102 := NB937_974.out
        have hnb103 := NB974_938.out
        have hnc103 := NB938_974.out
        have hnb104 := NB974_939.out
        have hnc104 := NB939_974.out
        have hnb105 := NB974_940.out
        have hnc105 := NB940_974.out
        have hnb106 := NB974_941.out
        have hnc106 := NB941_974.out
        obtain ⟨hcz107_0, hcz107_1, hcz107_2⟩ := cz3 BK974.out
        obtain ⟨hfz107_0, hfz107_1, hfz107_2⟩ := fz3 BK974.out
        try go_wp2_with (first | ((with_reducible refine gate_callee (f := 94) rfl ?_); refine gl (some 76) Try.func94 #[.agg #[.int .i64 t970, .int .i64 t971, .int .i64 t972]] ?_; (with_reducible refine (spec_l5Turn.calls t970 t971 t972 t975 t976 t977 _ A88.out).mono ?_); rintro e w108 ⟨rfl, hb⟩; refine ⟨_, rfl, ?_⟩; replace BK937 := kBF BK937 hb; replace BK938 := kBF BK938 hb; replace BK939 := kBF BK939 hb; replace BK940 := kBF BK940 hb; replace BK941 := kBF BK941 hb; replace BK974 := kBP (o' := .cells #[.int .i64 t970, .int .i64 t971, .int .i64 t972] 56 (0, 0)) BK974 hb; replace HB := bS HB hb; clear hb; have hnb109 := NB941_938.out; have hnc109 := NB938_941.out; have hnb110 := NB941_939.out; have hnc110 := NB939_941.out; have hnb111 := NB941_940.out; have hnc111 := NB940_941.out; obtain ⟨hcz112_0, hcz112_1, hcz112_2⟩ := cz3 BK941.out; obtain ⟨hfz112_0, hfz112_1, hfz112_2⟩ := fz3 BK941.out))
        refine bodyPost_ret (results_ct rfl _ _ gb941 56 #[.int .i64 t975, .int .i64 t976, .int .i64 t977] (0, 0) _ rfl (qP BK941) Try.underlying56 rfl (by kernel_rfl)) rfl ?_
        exact ⟨qE, qL HB⟩
      replace c87 := Bool.eq_false_iff.mpr c87
      subst c87
      replace H := qU H
      simp only [Option.some.injEq, Prod.mk.injEq] at H
      obtain ⟨rfl, rfl, rfl, rfl⟩ := H
      have hnb113 := NB937_938.out
      have hnc113 := NB938_937.out
      have hnb114 := NB937_939.out
      have hnc114 := NB939_937.out
      have hnb115 := NB937_940.out
      have hnc115 := NB940_937.out
      have hnb116 := NB937_941.out
      have hnc116 := NB941_937.out
      obtain ⟨hcz117_0, hcz117_1, hcz117_2⟩ := cz3 BK937.out
      obtain ⟨hfz117_0, hfz117_1, hfz117_2⟩ := fz3 BK937.out
      try go_wp2
      replace BK937 := az (blk_drew BK937.out)
      replace BK938 := az (blk_drew BK938.out)
      replace BK939 := az (blk_drew BK939.out)
      replace BK940 := az (blk_drew BK940.out)
      replace BK941 := az (blk_drew BK941.out)
      replace HB := az (below_drew1 HB.out)
      refine start_ (n := 13) (S := fun w' => w'.cell? ⟨gb939, 0, none⟩ = some (.int .i64 a2_0) ∧ w'.cell? ⟨gb939, 1, none⟩ = some (.int .i64 a2_1) ∧ w'.cell? ⟨gb939, 2, none⟩ = some (.int .i64 a2_2) ∧ w'.cell? ⟨gb940, 0, none⟩ = some (.int .i64 a3_0) ∧ w'.cell? ⟨gb940, 1, none⟩ = some (.int .i64 a3_1) ∧ w'.cell? ⟨gb938, 0, none⟩ = some (.int .i64 a1_0) ∧ w'.cell? ⟨gb938, 1, none⟩ = some (.int .i64 a1_1) ∧ w'.cell? ⟨gb937, 0, none⟩ = some (.int .i64 a0_0) ∧ w'.cell? ⟨gb937, 1, none⟩ = some (.int .i64 a0_1) ∧ w'.cell? ⟨gb937, 2, none⟩ = some (.int .i64 a0_2)) (ds := []) #[false, false, false, false, false, false, false, false, false, false, false, false, false] (by kernel_rfl) rfl rfl ⟨bc BK939 0, bc BK939 1, bc BK939 2, bc BK940 0, bc BK940 1, bc BK938 0, bc BK938 1, bc BK937 0, bc BK937 1, bc BK937 2⟩ (fun hHeld => ?_); refine with_tabW spec_l5Touch.tab7 spec_l5Touch.bits7 (fun HT_ HW_ => ?_)
      generalize wc.drew = w118 at BK937 BK938 BK939 BK940 BK941 HB hHeld ⊢
      refine pu 4 (some 67) (fl 13 16) HT_ ?_
      refine tk10 0 (some 63) (fl 13 17) HT_ HW_ hHeld ?_
      refine tk10 1 (some 64) (fl 13 19) HT_ HW_ hHeld ?_
      refine tk10 3 (some 66) (fl 13 27) HT_ HW_ hHeld ?_
      refine tk10 5 (some 68) (fl 13 59) HT_ HW_ hHeld ?_
      refine join_ (σ := Nat) 2 (fl 13 2047) (fun s_ => [(65, .agg #[.int .i64 t966, .int .i64 t967, .int .i64 t968, .int .i64 t969]), (69, .tuple #[.agg #[.int .i64 t970, .int .i64 t971, .int .i64 t972], .bool false]), (10, .pointer (some ⟨s_, 0, none⟩)), (62, .tuple #[.agg #[.int .i64 t970, .int .i64 t971, .int .i64 t972], .bool false]), (70, .agg #[.int .i64 t970, .int .i64 t971, .int .i64 t972]), (71, .bool false)]) (fun s_ w' => (w'.cell? ⟨gb939, 0, none⟩ = some (.int .i64 a2_0) ∧ w'.cell? ⟨gb939, 1, none⟩ = some (.int .i64 a2_1) ∧ w'.cell? ⟨gb939, 2, none⟩ = some (.int .i64 a2_2) ∧ w'.cell? ⟨gb940, 0, none⟩ = some (.int .i64 a3_0) ∧ w'.cell? ⟨gb940, 1, none⟩ = some (.int .i64 a3_1) ∧ w'.cell? ⟨gb938, 0, none⟩ = some (.int .i64 a1_0) ∧ w'.cell? ⟨gb938, 1, none⟩ = some (.int .i64 a1_1) ∧ w'.cell? ⟨gb937, 0, none⟩ = some (.int .i64 a0_0) ∧ w'.cell? ⟨gb937, 1, none⟩ = some (.int .i64 a0_1) ∧ w'.cell? ⟨gb937, 2, none⟩ = some (.int .i64 a0_2)) ∧ (w'.heap[gb937]? = some (.cells #[.int .i64 a0_0, .int .i64 a0_1, .int .i64 a0_2] 38 (0, 0))) ∧ (w'.heap[gb938]? = some (.cells #[.int .i64 a1_0, .int .i64 a1_1] 24 (0, 0))) ∧ (w'.heap[gb939]? = some (.cells #[.int .i64 a2_0, .int .i64 a2_1, .int .i64 a2_2] 38 (0, 0))) ∧ (w'.heap[gb940]? = some (.cells #[.int .i64 a3_0, .int .i64 a3_1] 24 (0, 0))) ∧ (w'.heap[gb941]? = some (.cells #[.int .i64 0, .int .i64 0, .int .i64 0] 56 (0, 0))) ∧ (w'.heap[s_]? = some (.cells #[.int .i64 0, .int .i64 0, .int .i64 0] 56 (0, 0))) ∧ (w.heap.size ≤ s_) ∧ (w.heap.size ≤ s_) ∧ (gb937 ≠ s_) ∧ (s_ ≠ gb937) ∧ (gb938 ≠ s_) ∧ (s_ ≠ gb938) ∧ (gb939 ≠ s_) ∧ (s_ ≠ gb939) ∧ (gb940 ≠ s_) ∧ (s_ ≠ gb940) ∧ (gb941 ≠ s_) ∧ (s_ ≠ gb941) ∧ (Below w.heap.size w w')) ?_ ?_
      rotate_left
      · intro hCont
        refine two_ (i := 2) (j := 10) (Ni := some 65) (Nj := some 10) (fl 13 63) (fl 13 1083) rfl rfl rfl rfl (two_of HT_.out (by kernel_rfl)) (by decide) (by decide) (fun K hK => ?_) (fun K hK => ?_)
        · skip
          refine go1 Try.func92 #[.agg #[.int .i64 a2_0, .int .i64 a2_1, .int .i64 a2_2], .agg #[.int .i64 a3_0, .int .i64 a3_1]] ?_
          with_reducible refine (spec_l3Bounds.calls a2_0 a2_1 a2_2 a3_0 a3_1 t966 t967 t968 t969 _ A85.out).mono ?_
          rintro e w119 ⟨rfl, hb⟩
          refine ⟨_, rfl, ?_⟩
          replace BK937 := kBB BK937 hb
          replace BK938 := kBB BK938 hb
          replace BK939 := kBB BK939 hb
          replace BK940 := kBB BK940 hb
          replace BK941 := kBB BK941 hb
          replace HB := bS HB hb
          clear hb
          refine hK.out _ _ ⟨bc BK939 0, bc BK939 1, bc BK939 2, bc BK940 0, bc BK940 1, bc BK938 0, bc BK938 1, bc BK937 0, bc BK937 1, bc BK937 2⟩ (fun hHeld => ?_)
          clear hK K
          refine nm (some 65) ?_
          refine two_ (i := 6) (j := 10) (Ni := some 69) (Nj := some 10) (fl 13 127) (fl 13 1087) rfl rfl rfl rfl (two_of HT_.out (by kernel_rfl)) (by decide) (by decide) (fun K hK => ?_) (fun K hK => ?_)
          · skip
            refine go1 Try.func93 #[.agg #[.int .i64 t966, .int .i64 t967, .int .i64 t968, .int .i64 t969], .agg #[.int .i64 a1_0, .int .i64 a1_1], .int .i64 a0_1] ?_
            with_reducible refine (spec_l5Mixed.calls kj43 t966 t967 t968 t969 a1_0 a1_1 a0_1 t970 t971 t972 false _ A86.out).mono ?_
            rintro e w120 ⟨rfl, hb⟩
            refine ⟨_, rfl, ?_⟩
            replace BK937 := kBB BK937 hb
            replace BK938 := kBB BK938 hb
            replace BK939 := kBB BK939 hb
            replace BK940 := kBB BK940 hb
            replace BK941 := kBB BK941 hb
            replace HB := bS HB hb
            clear hb
            refine hK.out _ _ ⟨bc BK939 0, bc BK939 1, bc BK939 2, bc BK940 0, bc BK940 1, bc BK938 0, bc BK938 1, bc BK937 0, bc BK937 1, bc BK937 2⟩ (fun hHeld => ?_)
            clear hK K
            refine nm (some 69) ?_
            refine pu 7 (some 62) (fl 13 255) HT_ ?_
            refine pu 8 (some 70) (fl 13 511) HT_ ?_
            refine pu 9 (some 71) (fl 13 1023) HT_ ?_
            refine on 10 (some 10) (fl 13 2047) HT_ (fun K hK => ?_)
            refine box_step ?hg (N := 10) ?hd (cs := #[.int .i64 0, .int .i64 0, .int .i64 0]) (t := 56) ?hr ?_; (case hd => rfl); (case hg => rfl); (case hr => first | (go_simp; done) | (go_simp; rfl))
            intro gb974 hg w121 hbox hb
            have BK974 := az hbox
            have GW974 := az ((gE hg (qL HB) : w.heap.size ≤ gb974))
            have GE974 := GW974
            obtain ⟨NB937_974, NB974_937⟩ := nPB BK937 hg
            obtain ⟨NB938_974, NB974_938⟩ := nPB BK938 hg
            obtain ⟨NB939_974, NB974_939⟩ := nPB BK939 hg
            obtain ⟨NB940_974, NB974_940⟩ := nPB BK940 hg
            obtain ⟨NB941_974, NB974_941⟩ := nPB BK941 hg
            replace BK937 := kBB BK937 hb
            replace BK938 := kBB BK938 hb
            replace BK939 := kBB BK939 hb
            replace BK940 := kBB BK940 hb
            replace BK941 := kBB BK941 hb
            replace HB := bS HB hb
            clear hb hbox hg
            refine hK.out _ _ ⟨bc BK939 0, bc BK939 1, bc BK939 2, bc BK940 0, bc BK940 1, bc BK938 0, bc BK938 1, bc BK937 0, bc BK937 1, bc BK937 2⟩ (fun hHeld => ?_)
            clear hK K
            refine nm (some 10) ?_
            exact nrm (hCont (gb974) _ ⟨hHeld, (qB BK937), (qB BK938), (qB BK939), (qB BK940), (qB BK941), (qB BK974), GW974.out, GE974.out, NB937_974.out, NB974_937.out, NB938_974.out, NB974_938.out, NB939_974.out, NB974_939.out, NB940_974.out, NB974_940.out, NB941_974.out, NB974_941.out, (qL HB)⟩)
          skip
          refine box_step ?hg (N := 10) ?hd (cs := #[.int .i64 0, .int .i64 0, .int .i64 0]) (t := 56) ?hr ?_; (case hd => rfl); (case hg => rfl); (case hr => first | (go_simp; done) | (go_simp; rfl))
          intro gb974 hg w120 hbox hb
          have BK974 := az hbox
          have GW974 := az ((gE hg (qL HB) : w.heap.size ≤ gb974))
          have GE974 := GW974
          obtain ⟨NB937_974, NB974_937⟩ := nPB BK937 hg
          obtain ⟨NB938_974, NB974_938⟩ := nPB BK938 hg
          obtain ⟨NB939_974, NB974_939⟩ := nPB BK939 hg
          obtain ⟨NB940_974, NB974_940⟩ := nPB BK940 hg
          obtain ⟨NB941_974, NB974_941⟩ := nPB BK941 hg
          replace BK937 := kBB BK937 hb
          replace BK938 := kBB BK938 hb
          replace BK939 := kBB BK939 hb
          replace BK940 := kBB BK940 hb
          replace BK941 := kBB BK941 hb
          replace HB := bS HB hb
          clear hb hbox hg
          refine hK.out _ _ ⟨bc BK939 0, bc BK939 1, bc BK939 2, bc BK940 0, bc BK940 1, bc BK938 0, bc BK938 1, bc BK937 0, bc BK937 1, bc BK937 2⟩ (fun hHeld => ?_)
          clear hK K
          refine nm (some 10) ?_
          refine on 6 (some 69) (fl 13 1151) HT_ (fun K hK => ?_)
          refine go1 Try.func93 #[.agg #[.int .i64 t966, .int .i64 t967, .int .i64 t968, .int .i64 t969], .agg #[.int .i64 a1_0, .int .i64 a1_1], .int .i64 a0_1] ?_
          with_reducible refine (spec_l5Mixed.calls kj43 t966 t967 t968 t969 a1_0 a1_1 a0_1 t970 t971 t972 false _ A86.out).mono ?_
          rintro e w121 ⟨rfl, hb⟩
          refine ⟨_, rfl, ?_⟩
          replace BK937 := kBB BK937 hb
          replace BK938 := kBB BK938 hb
          replace BK939 := kBB BK939 hb
          replace BK940 := kBB BK940 hb
          replace BK941 := kBB BK941 hb
          replace BK974 := kBB BK974 hb
          replace HB := bS HB hb
          clear hb
          refine hK.out _ _ ⟨bc BK939 0, bc BK939 1, bc BK939 2, bc BK940 0, bc BK940 1, bc BK938 0, bc BK938 1, bc BK937 0, bc BK937 1, bc BK937 2⟩ (fun hHeld => ?_)
          clear hK K
          refine nm (some 69) ?_
          refine pu 7 (some 62) (fl 13 1279) HT_ ?_
          refine pu 8 (some 70) (fl 13 1535) HT_ ?_
          refine pu 9 (some 71) (fl 13 2047) HT_ ?_
          exact nrm (hCont (gb974) _ ⟨hHeld, (qB BK937), (qB BK938), (qB BK939), (qB BK940), (qB BK941), (qB BK974), GW974.out, GE974.out, NB937_974.out, NB974_937.out, NB938_974.out, NB974_938.out, NB939_974.out, NB974_939.out, NB940_974.out, NB974_940.out, NB941_974.out, NB974_941.out, (qL HB)⟩)
        skip
        refine box_step ?hg (N := 10) ?hd (cs := #[.int .i64 0, .int .i64 0, .int .i64 0]) (t := 56) ?hr ?_; (case hd => rfl); (case hg => rfl); (case hr => first | (go_simp; done) | (go_simp; rfl))
        intro gb974 hg w119 hbox hb
        have BK974 := az hbox
        have GW974 := az ((gE hg (qL HB) : w.heap.size ≤ gb974))
        have GE974 := GW974
        obtain ⟨NB937_974, NB974_937⟩ := nPB BK937 hg
        obtain ⟨NB938_974, NB974_938⟩ := nPB BK938 hg
        obtain ⟨NB939_974, NB974_939⟩ := nPB BK939 hg
        obtain ⟨NB940_974, NB974_940⟩ := nPB BK940 hg
        obtain ⟨NB941_974, NB974_941⟩ := nPB BK941 hg
        replace BK937 := kBB BK937 hb
        replace BK938 := kBB BK938 hb
        replace BK939 := kBB BK939 hb
        replace BK940 := kBB BK940 hb
        replace BK941 := kBB BK941 hb
        replace HB := bS HB hb
        clear hb hbox hg
        refine hK.out _ _ ⟨bc BK939 0, bc BK939 1, bc BK939 2, bc BK940 0, bc BK940 1, bc BK938 0, bc BK938 1, bc BK937 0, bc BK937 1, bc BK937 2⟩ (fun hHeld => ?_)
        clear hK K
        refine nm (some 10) ?_
        refine on 2 (some 65) (fl 13 1087) HT_ (fun K hK => ?_)
        refine go1 Try.func92 #[.agg #[.int .i64 a2_0, .int .i64 a2_1, .int .i64 a2_2], .agg #[.int .i64 a3_0, .int .i64 a3_1]] ?_
        with_reducible refine (spec_l3Bounds.calls a2_0 a2_1 a2_2 a3_0 a3_1 t966 t967 t968 t969 _ A85.out).mono ?_
        rintro e w120 ⟨rfl, hb⟩
        refine ⟨_, rfl, ?_⟩
        replace BK937 := kBB BK937 hb
        replace BK938 := kBB BK938 hb
        replace BK939 := kBB BK939 hb
        replace BK940 := kBB BK940 hb
        replace BK941 := kBB BK941 hb
        replace BK974 := kBB BK974 hb
        replace HB := bS HB hb
        clear hb
        refine hK.out _ _ ⟨bc BK939 0, bc BK939 1, bc BK939 2, bc BK940 0, bc BK940 1, bc BK938 0, bc BK938 1, bc BK937 0, bc BK937 1, bc BK937 2⟩ (fun hHeld => ?_)
        clear hK K
        refine nm (some 65) ?_
        refine on 6 (some 69) (fl 13 1151) HT_ (fun K hK => ?_)
        refine go1 Try.func93 #[.agg #[.int .i64 t966, .int .i64 t967, .int .i64 t968, .int .i64 t969], .agg #[.int .i64 a1_0, .int .i64 a1_1], .int .i64 a0_1] ?_
        with_reducible refine (spec_l5Mixed.calls kj43 t966 t967 t968 t969 a1_0 a1_1 a0_1 t970 t971 t972 false _ A86.out).mono ?_
        rintro e w121 ⟨rfl, hb⟩
        refine ⟨_, rfl, ?_⟩
        replace BK937 := kBB BK937 hb
        replace BK938 := kBB BK938 hb
        replace BK939 := kBB BK939 hb
        replace BK940 := kBB BK940 hb
        replace BK941 := kBB BK941 hb
        replace BK974 := kBB BK974 hb
        replace HB := bS HB hb
        clear hb
        refine hK.out _ _ ⟨bc BK939 0, bc BK939 1, bc BK939 2, bc BK940 0, bc BK940 1, bc BK938 0, bc BK938 1, bc BK937 0, bc BK937 1, bc BK937 2⟩ (fun hHeld => ?_)
        clear hK K
        refine nm (some 69) ?_
        refine pu 7 (some 62) (fl 13 1279) HT_ ?_
        refine pu 8 (some 70) (fl 13 1535) HT_ ?_
        refine pu 9 (some 71) (fl 13 2047) HT_ ?_
        exact nrm (hCont (gb974) _ ⟨hHeld, (qB BK937), (qB BK938), (qB BK939), (qB BK940), (qB BK941), (qB BK974), GW974.out, GE974.out, NB937_974.out, NB974_937.out, NB938_974.out, NB974_938.out, NB939_974.out, NB974_939.out, NB940_974.out, NB974_940.out, NB941_974.out, NB974_941.out, (qL HB)⟩)
      rintro gb974 w122 ⟨hS_, h0_, h1_, h2_, h3_, h4_, h5_, h6_, h7_, h8_, h9_, h10_, h11_, h12_, h13_, h14_, h15_, h16_, h17_, h18_⟩
      have BK974 := az h5_
      have GW974 := az h6_
      have GE974 := az h7_
      have NB937_974 := az h8_
      have NB974_937 := az h9_
      have NB938_974 := az h10_
      have NB974_938 := az h11_
      have NB939_974 := az h12_
      have NB974_939 := az h13_
      have NB940_974 := az h14_
      have NB974_940 := az h15_
      have NB941_974 := az h16_
      have NB974_941 := az h17_
      replace BK937 := az h0_
      replace BK938 := az h1_
      replace BK939 := az h2_
      replace BK940 := az h3_
      replace BK941 := az h4_
      replace HB := az h18_
      clear h0_ h1_ h2_ h3_ h4_ h5_ h6_ h7_ h8_ h9_ h10_ h11_ h12_ h13_ h14_ h15_ h16_ h17_ h18_
      have hHeld := hS_
      refine nmp ?_
      refine on 11 (none) (fl 13 4095) HT_ (fun K hK => ?_)
      have hs123 : w122.cell? ⟨gb974, 0, none⟩ = some (.int .i64 0) := bc BK974 0
      have hfs123 := blk_frozen BK974.out 0
      have hns123_0 := NB937_974.out
      have hns123_1 := NB938_974.out
      have hns123_2 := NB939_974.out
      have hns123_3 := NB940_974.out
      have hns123_4 := NB941_974.out
      have hms123_0 := NB974_937.out
      have hms123_1 := NB974_938.out
      have hms123_2 := NB974_939.out
      have hms123_3 := NB974_940.out
      have hms123_4 := NB974_941.out
      have hs124 : w122.cell? ⟨gb974, 1, none⟩ = some (.int .i64 0) := bc BK974 1
      have hfs124 := blk_frozen BK974.out 1
      have hns124_0 := NB937_974.out
      have hns124_1 := NB938_974.out
      have hns124_2 := NB939_974.out
      have hns124_3 := NB940_974.out
      have hns124_4 := NB941_974.out
      have hms124_0 := NB974_937.out
      have hms124_1 := NB974_938.out
      have hms124_2 := NB974_939.out
      have hms124_3 := NB974_940.out
      have hms124_4 := NB974_941.out
      have hs125 : w122.cell? ⟨gb974, 2, none⟩ = some (.int .i64 0) := bc BK974 2
      have hfs125 := blk_frozen BK974.out 2
      have hns125_0 := NB937_974.out
      have hns125_1 := NB938_974.out
      have hns125_2 := NB939_974.out
      have hns125_3 := NB940_974.out
      have hns125_4 := NB941_974.out
      have hms125_0 := NB974_937.out
      have hms125_1 := NB974_938.out
      have hms125_2 := NB974_939.out
      have hms125_3 := NB974_940.out
      have hms125_4 := NB974_941.out
      refine skip_ (w1 := ?_) ?hw ?hn ?_ ?_; (case hw => unfold Region.wanted; rfl); (case hn => rfl)
      rotate_left
      · go_simp
        rfl
      refine hK.out _ _ ⟨(cf NB939_974 ((cf NB939_974 ((cf NB939_974 (hHeld.1)))))), (cf NB939_974 ((cf NB939_974 ((cf NB939_974 (hHeld.2.1)))))), (cf NB939_974 ((cf NB939_974 ((cf NB939_974 (hHeld.2.2.1)))))), (cf NB940_974 ((cf NB940_974 ((cf NB940_974 (hHeld.2.2.2.1)))))), (cf NB940_974 ((cf NB940_974 ((cf NB940_974 (hHeld.2.2.2.2.1)))))), (cf NB938_974 ((cf NB938_974 ((cf NB938_974 (hHeld.2.2.2.2.2.1)))))), (cf NB938_974 ((cf NB938_974 ((cf NB938_974 (hHeld.2.2.2.2.2.2.1)))))), (cf NB937_974 ((cf NB937_974 ((cf NB937_974 (hHeld.2.2.2.2.2.2.2.1)))))), (cf NB937_974 ((cf NB937_974 ((cf NB937_974 (hHeld.2.2.2.2.2.2.2.2.1)))))), (cf NB937_974 ((cf NB937_974 ((cf NB937_974 (hHeld.2.2.2.2.2.2.2.2.2))))))⟩ (fun hHeld => ?_)
      clear hK K
      refine pu 12 (some 11) (fl 13 8191) HT_ ?_
      refine done_ (done_of HT_.out (by kernel_rfl)) ?_
      have hnb126 := NB941_938.out
      have hnc126 := NB938_941.out
      have hnb127 := NB941_939.out
      have hnc127 := NB939_941.out
      have hnb128 := NB941_940.out
      have hnc128 := NB940_941.out
      have hnb129 := NB941_974.out
      have hnc129 := NB974_941.out
      obtain ⟨hcz130_0, hcz130_1, hcz130_2⟩ := cz3 BK941.out
      obtain ⟨hfz130_0, hfz130_1, hfz130_2⟩ := fz3 BK941.out
      try go_wp2
      refine bodyPost_ret (results_ct rfl _ _ gb941 56 #[.int .i64 0, .int .i64 0, .int .i64 0] (0, 0) _ rfl (qP BK941) Try.underlying56 rfl (by kernel_rfl)) rfl ?_
      exact ⟨qE, qL HB⟩
end Go.Proofs.Ytihajbjkjclmoaa.PBig
