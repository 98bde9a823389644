/- What these functions compute, each walked once: impl_boxes, impl_Shape_bounds, impl_Box_near; for all arguments and worlds, under the conditions that each theorem names. -/
import Derived.Test.YtihajbjkjclmoaaSq
import Derived.Test.YtihajbjkjclmoaaPBigx911
import Derived.Test.YtihajbjkjclmoaaPBigx927
namespace Go.Proofs.Ytihajbjkjclmoaa.PBig
open Go.RowKit Go.Proofs.YtihajbjkjclmoaaW.PrintWords Go.Proofs.YtihajbjkjclmoaaW.PrintLast Go.Proofs.YtihajbjkjclmoaaW.PrintMore
attribute [local go_sem] max2_int min2_int max_two min_two max_three min_three max_four min_four   -- for this text's walks alone
set_option linter.unusedVariables false
set_option linter.unusedSimpArgs false

/-! ### impl_boxes: function 75 -/
def impl_boxes.l0 : Nat → List (S56) → Int → Int → Int → Int → Int → Option (Int × Int × Int × Bool)
  | 0, _, _, _, _, _, _ => none
  | k + 1, x50, x51, x52, x1024000, x1024001, x1024002 => if x52 < x51 then (if 0 ≤ x52 then (if x52 < (x50.length : Int) then (if ((rd_T56 x50 x52).f1) < x1024002 then (impl_boxes.l0 k x50 x51 (wrap64 (x52 + 1)) ((rd_T56 x50 x52).f0.f0) ((rd_T56 x50 x52).f0.f1) ((rd_T56 x50 x52).f1)) else (impl_boxes.l0 k x50 x51 (wrap64 (x52 + 1)) x1024000 x1024001 x1024002)) else (none)) else (none)) else (some (x1024000, x1024001, x1024002, true))
def impl_boxes.f (k : Nat) (a0_0 : Int) (a0_1 : Int) (a0_2 : Int) (a0_3 : Int) (a1_0 : Int) (a1_1 : Int) (a1_2 : Int) (a1_3 : Int) : Option (Int × Int × Int × Bool) := (impl_Box_meets.f a0_0 a0_1 a0_2 a0_3 a1_0 a1_1 a1_2 a1_3).bind fun t1022 => (if t1022 = true then ((some (([(⟨(⟨(-256), 0⟩ : S24), wrap64 (a1_2 - a0_0)⟩ : S56), (⟨(⟨0, 256⟩ : S24), wrap64 (a0_3 - a1_1)⟩ : S56), (⟨(⟨0, (-256)⟩ : S24), wrap64 (a1_3 - a0_1)⟩ : S56)] : List (S56)) : List (S56))).bind fun y1024 => (impl_boxes.l0 k y1024 (y1024.length : Int) 0 256 0 (wrap64 (a0_2 - a1_0)))) else (some (0, 0, 0, false)))
theorem impl_boxes.mono_l : ∀ k, (∀ y0 y1 y2 y3 y4 y5, LeO (impl_boxes.l0 k y0 y1 y2 y3 y4 y5) (impl_boxes.l0 (k + 1) y0 y1 y2 y3 y4 y5))
  | 0 => fun _ _ _ _ _ _ r h => by simp [impl_boxes.l0] at h
  | k + 1 => by
    have ih0 := impl_boxes.mono_l k
    · intro y0 y1 y2 y3 y4 y5
      unfold impl_boxes.l0
      repeat' first
      | (with_reducible exact ih0 _ _ _ _ _ _)
      | (with_reducible exact LeO.refl _)
      | (with_reducible exact LeO.none _)
      | (with_reducible refine LeO.ite ?_ ?_)
      | (with_reducible refine LeO.bind ?_ (fun _ => ?_))
theorem impl_boxes.mono : ∀ a0 a1 a2 a3 a4 a5 a6 a7 k, LeO (impl_boxes.f k a0 a1 a2 a3 a4 a5 a6 a7) (impl_boxes.f (k + 1) a0 a1 a2 a3 a4 a5 a6 a7) := by
  intro a0 a1 a2 a3 a4 a5 a6 a7 k
  have ih0 := impl_boxes.mono_l k
  unfold impl_boxes.f
  repeat' first
      | (with_reducible exact ih0 _ _ _ _ _ _)
      | (with_reducible exact LeO.refl _)
      | (with_reducible exact LeO.none _)
      | (with_reducible refine LeO.ite ?_ ?_)
      | (with_reducible refine LeO.bind ?_ (fun _ => ?_))
set_option maxHeartbeats 8000000 in
set_option maxRecDepth 100000 in
theorem impl_boxes.calls (k : Nat) (a0_0 : Int) (a0_1 : Int) (a0_2 : Int) (a0_3 : Int) (a1_0 : Int) (a1_1 : Int) (a1_2 : Int) (a1_3 : Int) (r1 : Int) (r2 : Int) (r3 : Int) (r4 : Bool) (w : World) (h : impl_boxes.f k a0_0 a0_1 a0_2 a0_3 a1_0 a1_1 a1_2 a1_3 = some (r1, r2, r3, r4)) :
    Calls Try.prog 75 #[.agg #[.int .i64 a0_0, .int .i64 a0_1, .int .i64 a0_2, .int .i64 a0_3], .agg #[.int .i64 a1_0, .int .i64 a1_1, .int .i64 a1_2, .int .i64 a1_3]] w fun e w' => e = .returned (.tuple #[.agg #[.int .i64 r1, .int .i64 r2, .int .i64 r3], .bool r4]) ∧ Below w.heap.size w w' := by
  have hu26 := Try.underlying26
  have hu56 := Try.underlying56
  have hu24 := Try.underlying24
  have HB := az (Below.refl w.heap.size w)
  have H : ((impl_Box_meets.f a0_0 a0_1 a0_2 a0_3 a1_0 a1_1 a1_2 a1_3).bind fun t1022 => (if t1022 = true then ((some (([(⟨(⟨(-256), 0⟩ : S24), wrap64 (a1_2 - a0_0)⟩ : S56), (⟨(⟨0, 256⟩ : S24), wrap64 (a0_3 - a1_1)⟩ : S56), (⟨(⟨0, (-256)⟩ : S24), wrap64 (a1_3 - a0_1)⟩ : S56)] : List (S56)) : List (S56))).bind fun y1024 => (impl_boxes.l0 k y1024 (y1024.length : Int) 0 256 0 (wrap64 (a0_2 - a1_0)))) else (some (0, 0, 0, false)))) = some (r1, r2, r3, r4) := h
  clear h
  replace H := qH H
  obtain ⟨t1022, A3, H⟩ := H
  try dsimp only at H
  by_cases c4 : t1022 = true
  · subst c4
    replace H := qT H
    obtain ⟨y1024, hy1024⟩ : ∃ y_ : List (S56), y_ = (([(⟨(⟨(-256), 0⟩ : S24), wrap64 (a1_2 - a0_0)⟩ : S56), (⟨(⟨0, 256⟩ : S24), wrap64 (a0_3 - a1_1)⟩ : S56), (⟨(⟨0, (-256)⟩ : S24), wrap64 (a1_3 - a0_1)⟩ : S56)] : List (S56))) := ⟨_, rfl⟩
    replace H : (impl_boxes.l0 k y1024 (y1024.length : Int) 0 256 0 (wrap64 (a0_2 - a1_0))) = some (r1, r2, r3, r4) := by first | (rw [hy1024]; with_reducible exact H) | (have H2_ := (Option.bind_some _ _).symm.trans H; rw [hy1024]; with_reducible exact H2_) | (have H2_ := (Option.bind_some _ _).symm.trans H; with_reducible exact H2_) | with_reducible exact H | (rw [hy1024]; exact H) | exact H
    have Ny1024 := az hy1024
    clear hy1024
    have H' := az H
    clear H
    go_enter Try.func75, Try.ntmps75
    go_wp2_with (first | ((with_reducible refine gate_dst (N := 2) rfl ?_); refine bx (N := 2) (cs := #[.int .i64 a0_0, .int .i64 a0_1, .int .i64 a0_2, .int .i64 a0_3]) (t := 26) ?_; intro gb1019 hg w5 hbox hb; have BK1019 := az hbox; have GW1019 := az ((gE hg (qL HB) : w.heap.size ≤ gb1019)); have GE1019 := GW1019; replace HB := bS HB hb; clear hb hbox hg) | ((with_reducible refine gate_dst (N := 3) rfl ?_); refine bx (N := 3) (cs := #[.int .i64 a1_0, .int .i64 a1_1, .int .i64 a1_2, .int .i64 a1_3]) (t := 26) ?_; intro gb1020 hg w6 hbox hb; have BK1020 := az hbox; have GW1020 := az ((gE hg (qL HB) : w.heap.size ≤ gb1020)); have GE1020 := GW1020; obtain ⟨NB1019_1020, NB1020_1019⟩ := nPB BK1019 hg; replace BK1019 := kBB BK1019 hb; replace HB := bS HB hb; clear hb hbox hg) | ((with_reducible refine gate_dst (N := 4) rfl ?_); refine bx (N := 4) (cs := #[.int .i64 0, .int .i64 0, .int .i64 0]) (t := 56) ?_; intro gb1021 hg w7 hbox hb; have BK1021 := az hbox; have GW1021 := az ((gE hg (qL HB) : w.heap.size ≤ gb1021)); have GE1021 := GW1021; obtain ⟨NB1019_1021, NB1021_1019⟩ := nPB BK1019 hg; obtain ⟨NB1020_1021, NB1021_1020⟩ := nPB BK1020 hg; replace BK1019 := kBB BK1019 hb; replace BK1020 := kBB BK1020 hb; replace HB := bS HB hb; clear hb hbox hg; have hnb8 := NB1019_1020.out; have hnc8 := NB1020_1019.out; have hnb9 := NB1019_1021.out; have hnc9 := NB1021_1019.out; obtain ⟨hcz10_0, hcz10_1, hcz10_2, hcz10_3⟩ := cz4 BK1019.out; obtain ⟨hfz10_0, hfz10_1, hfz10_2, hfz10_3⟩ := fz4 BK1019.out; have hnb11 := NB1020_1021.out; have hnc11 := NB1021_1020.out; obtain ⟨hcz12_0, hcz12_1, hcz12_2, hcz12_3⟩ := cz4 BK1020.out; obtain ⟨hfz12_0, hfz12_1, hfz12_2, hfz12_3⟩ := fz4 BK1020.out) | ((with_reducible refine gate_callee (f := 81) rfl ?_); refine gl (some 11) Try.func81 #[.agg #[.int .i64 a0_0, .int .i64 a0_1, .int .i64 a0_2, .int .i64 a0_3], .agg #[.int .i64 a1_0, .int .i64 a1_1, .int .i64 a1_2, .int .i64 a1_3]] ?_; (with_reducible refine (impl_Box_meets.calls a0_0 a0_1 a0_2 a0_3 a1_0 a1_1 a1_2 a1_3 true _ A3.out).mono ?_); rintro e w13 ⟨rfl, hb⟩; refine ⟨_, rfl, ?_⟩; replace BK1019 := kBB BK1019 hb; replace BK1020 := kBB BK1020 hb; replace BK1021 := kBB BK1021 hb; replace HB := bS HB hb; clear hb; obtain ⟨hcz14_0, hcz14_1, hcz14_2, hcz14_3⟩ := cz4 BK1019.out; obtain ⟨hfz14_0, hfz14_1, hfz14_2, hfz14_3⟩ := fz4 BK1019.out; obtain ⟨hcz15_0, hcz15_1, hcz15_2, hcz15_3⟩ := cz4 BK1020.out; obtain ⟨hfz15_0, hfz15_1, hfz15_2, hfz15_3⟩ := fz4 BK1020.out) | ((with_reducible refine gate_dst (N := 6) rfl ?_); refine bx (N := 6) (cs := #[.int .i64 0, .int .i64 0, .int .i64 0]) (t := 56) ?_; intro gb1023 hg w16 hbox hb; have BK1023 := az hbox; have GW1023 := az ((gE hg (qL HB) : w.heap.size ≤ gb1023)); have GE1023 := GW1023; obtain ⟨NB1019_1023, NB1023_1019⟩ := nPB BK1019 hg; obtain ⟨NB1020_1023, NB1023_1020⟩ := nPB BK1020 hg; obtain ⟨NB1021_1023, NB1023_1021⟩ := nPB BK1021 hg; replace BK1019 := kBB BK1019 hb; replace BK1020 := kBB BK1020 hb; replace BK1021 := kBB BK1021 hb; replace HB := bS HB hb; clear hb hbox hg; have hnb17 := NB1023_1019.out; have hnc17 := NB1019_1023.out; have hnb18 := NB1023_1020.out; have hnc18 := NB1020_1023.out; have hnb19 := NB1023_1021.out; have hnc19 := NB1021_1023.out; obtain ⟨hcz20_0, hcz20_1, hcz20_2⟩ := cz3 BK1023.out; obtain ⟨hfz20_0, hfz20_1, hfz20_2⟩ := fz3 BK1023.out; obtain ⟨hcz21_0, hcz21_1, hcz21_2, hcz21_3⟩ := cz4 BK1020.out; obtain ⟨hfz21_0, hfz21_1, hfz21_2, hfz21_3⟩ := fz4 BK1020.out; obtain ⟨hcz22_0, hcz22_1, hcz22_2, hcz22_3⟩ := cz4 BK1019.out; obtain ⟨hfz22_0, hfz22_1, hfz22_2, hfz22_3⟩ := fz4 BK1019.out) | ((with_reducible refine gate_dst (N := 50) rfl ?_); refine Kd.R_lit k56 _ 56 ?hg (N := 50) ?hd (xs := ([(⟨(⟨(-256), 0⟩ : S24), wrap64 (a1_2 - a0_0)⟩ : S56), (⟨(⟨0, 256⟩ : S24), wrap64 (a0_3 - a1_1)⟩ : S56), (⟨(⟨0, (-256)⟩ : S24), wrap64 (a1_3 - a0_1)⟩ : S56)] : List (S56))) (inner := [.int .i64 (-256), .int .i64 0, .int .i64 (wrap64 (a1_2 - a0_0)), .int .i64 0, .int .i64 256, .int .i64 (wrap64 (a0_3 - a1_1)), .int .i64 0, .int .i64 (-256), .int .i64 (wrap64 (a1_3 - a0_1))]) (ok := fun _ => True) (okp := fun _ => True) ?hr ?hp (fun _ hk => hk) trivial (Below.refl _ _) (Nat.le_refl _) (by simp) ?_; (case hd => rfl); (case hg => rfl); (case hr => first | (go_simp; done) | (go_simp; rfl)); (case hp => exact (Reps.c3 (show Kd.M k56 _ _ _ (⟨(⟨(-256), 0⟩ : S24), wrap64 (a1_2 - a0_0)⟩ : S56) [.int .i64 (-256), .int .i64 0, .int .i64 (wrap64 (a1_2 - a0_0))] from (k56_mkM _ _ _ (⟨(⟨(-256), 0⟩ : S24), wrap64 (a1_2 - a0_0)⟩ : S56) )) (Reps.c3 (show Kd.M k56 _ _ _ (⟨(⟨0, 256⟩ : S24), wrap64 (a0_3 - a1_1)⟩ : S56) [.int .i64 0, .int .i64 256, .int .i64 (wrap64 (a0_3 - a1_1))] from (k56_mkM _ _ _ (⟨(⟨0, 256⟩ : S24), wrap64 (a0_3 - a1_1)⟩ : S56) )) (Reps.c3 (show Kd.M k56 _ _ _ (⟨(⟨0, (-256)⟩ : S24), wrap64 (a1_3 - a0_1)⟩ : S56) [.int .i64 0, .int .i64 (-256), .int .i64 (wrap64 (a1_3 - a0_1))] from (k56_mkM _ _ _ (⟨(⟨0, (-256)⟩ : S24), wrap64 (a1_3 - a0_1)⟩ : S56) )) (Reps.none _ _))))); intro v1025 w23 ho24 hb hg_ hnew_; clear hg_ hnew_; (first | rw [← Ny1024.out] at ho24 | (simp only [Int.reduceToNat] at ho24; rw [← Ny1024.out] at ho24)); have HO1026 := az (Kd.R_lower (Kd.R_newB (Kd.R_newB ho24 (g := gb1021) (o := .cells #[.int .i64 0, .int .i64 0, .int .i64 0] 56 (0, 0)) (qF BK1021)) (g := gb1023) (o := .cells #[.int .i64 256, .int .i64 0, .int .i64 (wrap64 (a0_2 - a1_0))] 56 (0, 0)) (qP BK1023)) (below_size (qL HB))); replace BK1019 := kBF BK1019 hb; replace BK1020 := kBF BK1020 hb; replace BK1021 := kBF BK1021 hb; replace BK1023 := kBP (o' := .cells #[.int .i64 256, .int .i64 0, .int .i64 (wrap64 (a0_2 - a1_0))] 56 (0, 0)) BK1023 hb; replace HB := bS HB hb; clear hb ho24; obtain ⟨Ao25, co25, eo25⟩ := Kd.R_slice HO1026.out; subst eo25))
    go_loopg [52] k (fun kq v52 w' => ∃ (x52_1 : Int) (x1024000_1 : Int) (x1024001_1 : Int) (x1024002_1 : Int), v52 = .int .i64 x52_1 ∧ Aside0 (impl_boxes.l0 kq y1024 (y1024.length : Int) x52_1 x1024000_1 x1024001_1 x1024002_1 = some (r1, r2, r3, r4)) ∧ Aside0 (kq ≤ k) ∧ Aside0 (Kd.R k56 56 w' w.heap.size (fun k_ => k_ ≠ gb1021 ∧ k_ ≠ gb1023) (.slice Ao25 y1024.length co25) y1024) ∧ Aside0 (w'.heap[gb1019]? = some (.cells #[.int .i64 a0_0, .int .i64 a0_1, .int .i64 a0_2, .int .i64 a0_3] 26 (0, 0))) ∧ Aside0 (w'.heap[gb1020]? = some (.cells #[.int .i64 a1_0, .int .i64 a1_1, .int .i64 a1_2, .int .i64 a1_3] 26 (0, 0))) ∧ Aside0 (w'.heap[gb1021]? = some (.cells #[.int .i64 0, .int .i64 0, .int .i64 0] 56 (0, 0))) ∧ Aside0 (w'.heap[gb1023]? = some (.cells #[.int .i64 x1024000_1, .int .i64 x1024001_1, .int .i64 x1024002_1] 56 (0, 0))) ∧ Aside0 (Below w.heap.size w w'))
    case atStart => exact ⟨(0), (256), (0), (wrap64 (a0_2 - a1_0)), (by first | rfl | (simp; done) | (simp [*]; done)), H', ⟨Nat.le_refl _⟩, ⟨by (with_reducible repeat (first | apply Kd.R_alloc | apply Kd.R_drewN | apply Kd.R_drew)); exact Kd.R_mono HO1026.out (fun _ hk => ⟨hk.1.2, hk.2⟩)⟩, ⟨qF BK1019⟩, ⟨qF BK1020⟩, ⟨qF BK1021⟩, ⟨qF BK1023⟩, ⟨qL HB⟩⟩
    case round =>
      clear H'
      (try clear c4); (try clear hcz10_0); (try clear hcz10_1); (try clear hcz10_2); (try clear hcz10_3); (try clear hcz12_0); (try clear hcz12_1); (try clear hcz12_2); (try clear hcz12_3); (try clear hcz14_0); (try clear hcz14_1); (try clear hcz14_2); (try clear hcz14_3); (try clear hcz15_0); (try clear hcz15_1); (try clear hcz15_2); (try clear hcz15_3); (try clear hcz20_0); (try clear hcz20_1); (try clear hcz20_2); (try clear hcz21_0); (try clear hcz21_1); (try clear hcz21_2); (try clear hcz21_3); (try clear hcz22_0); (try clear hcz22_1); (try clear hcz22_2); (try clear hcz22_3); (try clear hfz10_0); (try clear hfz10_1); (try clear hfz10_2); (try clear hfz10_3); (try clear hfz12_0); (try clear hfz12_1); (try clear hfz12_2); (try clear hfz12_3); (try clear hfz14_0); (try clear hfz14_1); (try clear hfz14_2); (try clear hfz14_3); (try clear hfz15_0); (try clear hfz15_1); (try clear hfz15_2); (try clear hfz15_3); (try clear hfz20_0); (try clear hfz20_1); (try clear hfz20_2); (try clear hfz21_0); (try clear hfz21_1); (try clear hfz21_2); (try clear hfz21_3); (try clear hfz22_0); (try clear hfz22_1); (try clear hfz22_2); (try clear hfz22_3)
      obtain ⟨x52_1, x1024000_1, x1024001_1, x1024002_1, rfl, HA, HK1, HO_50, BK1019, BK1020, BK1021, BK1023, HB⟩ := hrel
      cases gk with
      | zero => exact absurd HA.out (by simp [impl_boxes.l0])
      | succ k1 => ?_
      have H := HA.out
      clear HA
      simp only [impl_boxes.l0] at H
      by_cases c26 : x52_1 < (y1024.length : Int)
      · rw [if_pos c26] at H
        have c26b0 : decide (x52_1 < (y1024.length : Int)) = true := decide_eq_true c26
        clear c26
        by_cases c27 : 0 ≤ x52_1
        · rw [if_pos c27] at H
          have c27b0 : decide (0 ≤ x52_1) = true := decide_eq_true c27
          clear c27
          by_cases c28 : x52_1 < (y1024.length : Int)
          · rw [if_pos c28] at H
            have c28b0 : decide (x52_1 < (y1024.length : Int)) = true := decide_eq_true c28
            clear c28
            by_cases c29 : ((rd_T56 y1024 x52_1).f1) < x1024002_1
            · rw [if_pos c29] at H
              have c29b0 : decide (((rd_T56 y1024 x52_1).f1) < x1024002_1) = true := decide_eq_true c29
              clear c29
              have H' := az H
              clear H
              have p1027 : 0 ≤ (x52_1 : Int) := of_decide_eq_true (by first | (with_reducible assumption) | assumption)
              have q1027 : x52_1 < (y1024.length : Int) := of_decide_eq_true (by first | (with_reducible assumption) | assumption)
              obtain ⟨ad1027, e1027, hx1027_0, hx1027_1, hx1027_2⟩ := at_T56 (Kd.R_reads' HO_50.out).2.2 x52_1 p1027 q1027
              cases e1027
              replace p1027 := eq_true p1027
              replace q1027 := eq_true q1027
              go_wp2_with (first | ((with_reducible refine gate_dst (N := 8) rfl ?_); refine bx (N := 8) (cs := #[.int .i64 0, .int .i64 0, .int .i64 0]) (t := 56) ?_; intro gb1028 hg w30 hbox hb; have BK1028 := az hbox; have GW1028 := az ((gE hg (qL HB) : w.heap.size ≤ gb1028)); have GE1028 := GW1028; obtain ⟨NB1019_1028, NB1028_1019⟩ := nPB BK1019 hg; obtain ⟨NB1020_1028, NB1028_1020⟩ := nPB BK1020 hg; obtain ⟨NB1021_1028, NB1028_1021⟩ := nPB BK1021 hg; obtain ⟨NB1023_1028, NB1028_1023⟩ := nPB BK1023 hg; replace HO_50 := az (Kd.R_below (Kd.R_elderB (by (with_reducible repeat (first | apply Kd.R_alloc | apply Kd.R_drewN | apply Kd.R_drew)); exact HO_50.out) gb1028 (Nat.le_of_eq hg.symm)) hb); replace BK1019 := kBB BK1019 hb; replace BK1020 := kBB BK1020 hb; replace BK1021 := kBB BK1021 hb; replace BK1023 := kBB BK1023 hb; replace HB := bS HB hb; clear hb hbox hg; have hnb31 := NB1028_1019.out; have hnc31 := NB1019_1028.out; have hnb32 := NB1028_1020.out; have hnc32 := NB1020_1028.out; have hnb33 := NB1028_1021.out; have hnc33 := NB1021_1028.out; have hnb34 := NB1028_1023.out; have hnc34 := NB1023_1028.out; obtain ⟨hcz35_0, hcz35_1, hcz35_2⟩ := cz3 BK1028.out; obtain ⟨hfz35_0, hfz35_1, hfz35_2⟩ := fz3 BK1028.out; have hnb36 := NB1023_1019.out; have hnc36 := NB1019_1023.out; have hnb37 := NB1023_1020.out; have hnc37 := NB1020_1023.out; have hnb38 := NB1023_1021.out; have hnc38 := NB1021_1023.out; obtain ⟨hcz39_0, hcz39_1, hcz39_2⟩ := cz3 BK1023.out; obtain ⟨hfz39_0, hfz39_1, hfz39_2⟩ := fz3 BK1023.out))
              go_roundg k1
              case measure => have := HK1.out; omega
              case rel => exact ⟨(wrap64 (x52_1 + 1)), ((rd_T56 y1024 x52_1).f0.f0), ((rd_T56 y1024 x52_1).f0.f1), ((rd_T56 y1024 x52_1).f1), (by first | rfl | (simp; done) | (simp [*]; done)), H', ⟨by have := HK1.out; omega⟩, ⟨by (with_reducible repeat (first | apply Kd.R_alloc | apply Kd.R_drewN | apply Kd.R_drew)); exact Kd.R_mono (Kd.R_far (p := ⟨gb1023, 2, none⟩) (Kd.R_far (p := ⟨gb1023, 1, none⟩) (Kd.R_far (p := ⟨gb1023, 0, none⟩) (Kd.R_far (p := ⟨gb1028, 2, none⟩) (Kd.R_far (p := ⟨gb1028, 1, none⟩) (Kd.R_far (p := ⟨gb1028, 0, none⟩) (Kd.R_mono (Kd.R_mono HO_50.out (fun k_ hk => (⟨hk, hk.2⟩ : _ ∧ k_ ≠ gb1028))) (fun k_ hk => (⟨hk, hk.1.1.2⟩ : _ ∧ k_ ≠ gb1023))) (fun _ hk => hk.1.2) (.int .i64 ((rd_T56 y1024 x52_1).f0.f0))) (fun _ hk => hk.1.2) (.int .i64 ((rd_T56 y1024 x52_1).f0.f1))) (fun _ hk => hk.1.2) (.int .i64 ((rd_T56 y1024 x52_1).f1))) (fun _ hk => hk.2) (.int .i64 ((rd_T56 y1024 x52_1).f0.f0))) (fun _ hk => hk.2) (.int .i64 ((rd_T56 y1024 x52_1).f0.f1))) (fun _ hk => hk.2) (.int .i64 ((rd_T56 y1024 x52_1).f1))) (fun _ hk => ⟨hk.1.1.1.1, hk.1.1.1.2⟩)⟩, ⟨qF BK1019⟩, ⟨qF BK1020⟩, ⟨qF BK1021⟩, ⟨qP BK1023⟩, ⟨qL HB⟩⟩
            rw [if_neg c29] at H
            have c29b0 : decide (((rd_T56 y1024 x52_1).f1) < x1024002_1) = false := decide_eq_false c29
            clear c29
            have H' := az H
            clear H
            have p1027 : 0 ≤ (x52_1 : Int) := of_decide_eq_true (by first | (with_reducible assumption) | assumption)
            have q1027 : x52_1 < (y1024.length : Int) := of_decide_eq_true (by first | (with_reducible assumption) | assumption)
            obtain ⟨ad1027, e1027, hx1027_0, hx1027_1, hx1027_2⟩ := at_T56 (Kd.R_reads' HO_50.out).2.2 x52_1 p1027 q1027
            cases e1027
            replace p1027 := eq_true p1027
            replace q1027 := eq_true q1027
            go_wp2_with (first | ((with_reducible refine gate_dst (N := 8) rfl ?_); refine bx (N := 8) (cs := #[.int .i64 0, .int .i64 0, .int .i64 0]) (t := 56) ?_; intro gb1028 hg w40 hbox hb; have BK1028 := az hbox; have GW1028 := az ((gE hg (qL HB) : w.heap.size ≤ gb1028)); have GE1028 := GW1028; obtain ⟨NB1019_1028, NB1028_1019⟩ := nPB BK1019 hg; obtain ⟨NB1020_1028, NB1028_1020⟩ := nPB BK1020 hg; obtain ⟨NB1021_1028, NB1028_1021⟩ := nPB BK1021 hg; obtain ⟨NB1023_1028, NB1028_1023⟩ := nPB BK1023 hg; replace HO_50 := az (Kd.R_below (Kd.R_elderB (by (with_reducible repeat (first | apply Kd.R_alloc | apply Kd.R_drewN | apply Kd.R_drew)); exact HO_50.out) gb1028 (Nat.le_of_eq hg.symm)) hb); replace BK1019 := kBB BK1019 hb; replace BK1020 := kBB BK1020 hb; replace BK1021 := kBB BK1021 hb; replace BK1023 := kBB BK1023 hb; replace HB := bS HB hb; clear hb hbox hg; have hnb41 := NB1028_1019.out; have hnc41 := NB1019_1028.out; have hnb42 := NB1028_1020.out; have hnc42 := NB1020_1028.out; have hnb43 := NB1028_1021.out; have hnc43 := NB1021_1028.out; have hnb44 := NB1028_1023.out; have hnc44 := NB1023_1028.out; obtain ⟨hcz45_0, hcz45_1, hcz45_2⟩ := cz3 BK1028.out; obtain ⟨hfz45_0, hfz45_1, hfz45_2⟩ := fz3 BK1028.out; have hnb46 := NB1023_1019.out; have hnc46 := NB1019_1023.out; have hnb47 := NB1023_1020.out; have hnc47 := NB1020_1023.out; have hnb48 := NB1023_1021.out; have hnc48 := NB1021_1023.out; obtain ⟨hcz49_0, hcz49_1, hcz49_2⟩ := cz3 BK1023.out; obtain ⟨hfz49_0, hfz49_1, hfz49_2⟩ := fz3 BK1023.out))
            go_roundg k1
            case measure => have := HK1.out; omega
            case rel => exact ⟨(wrap64 (x52_1 + 1)), (x1024000_1), (x1024001_1), (x1024002_1), (by first | rfl | (simp; done) | (simp [*]; done)), H', ⟨by have := HK1.out; omega⟩, ⟨by (with_reducible repeat (first | apply Kd.R_alloc | apply Kd.R_drewN | apply Kd.R_drew)); exact Kd.R_mono (Kd.R_far (p := ⟨gb1028, 2, none⟩) (Kd.R_far (p := ⟨gb1028, 1, none⟩) (Kd.R_far (p := ⟨gb1028, 0, none⟩) (Kd.R_mono HO_50.out (fun k_ hk => (⟨hk, hk.2⟩ : _ ∧ k_ ≠ gb1028))) (fun _ hk => hk.2) (.int .i64 ((rd_T56 y1024 x52_1).f0.f0))) (fun _ hk => hk.2) (.int .i64 ((rd_T56 y1024 x52_1).f0.f1))) (fun _ hk => hk.2) (.int .i64 ((rd_T56 y1024 x52_1).f1))) (fun _ hk => ⟨hk.1.1.1, hk.1.1.2⟩)⟩, ⟨qF BK1019⟩, ⟨qF BK1020⟩, ⟨qF BK1021⟩, ⟨qF BK1023⟩, ⟨qL HB⟩⟩
          rw [if_neg c28] at H
          exact absurd H (by simp)
        rw [if_neg c27] at H
        exact absurd H (by simp)
      rw [if_neg c26] at H
      have c26b0 : decide (x52_1 < (y1024.length : Int)) = false := decide_eq_false c26
      clear c26
      simp only [Option.some.injEq, Prod.mk.injEq] at H
      obtain ⟨rfl, rfl, rfl, rfl⟩ := H
      have hnb50 := NB1023_1019.out
      have hnc50 := NB1019_1023.out
      have hnb51 := NB1023_1020.out
      have hnc51 := NB1020_1023.out
      have hnb52 := NB1023_1021.out
      have hnc52 := NB1021_1023.out
      obtain ⟨hcz53_0, hcz53_1, hcz53_2⟩ := cz3 BK1023.out
      obtain ⟨hfz53_0, hfz53_1, hfz53_2⟩ := fz3 BK1023.out
      have hnb54 := NB1021_1019.out
      have hnc54 := NB1019_1021.out
      have hnb55 := NB1021_1020.out
      have hnc55 := NB1020_1021.out
      obtain ⟨hcz56_0, hcz56_1, hcz56_2⟩ := cz3 BK1021.out
      obtain ⟨hfz56_0, hfz56_1, hfz56_2⟩ := fz3 BK1021.out
      go_wp2
      refine bodyPost_ret (results_ct rfl _ _ gb1021 56 #[.int .i64 x1024000_1, .int .i64 x1024001_1, .int .i64 x1024002_1] (0, 0) _ rfl (qP BK1021) Try.underlying56 rfl (by kernel_rfl)) rfl ?_
      exact ⟨qE, qL HB⟩
  replace c4 := Bool.eq_false_iff.mpr c4
  subst c4
  replace H := qU H
  simp only [Option.some.injEq, Prod.mk.injEq] at H
  obtain ⟨rfl, rfl, rfl, rfl⟩ := H
  go_enter Try.func75, Try.ntmps75
  go_wp2_with (first | ((with_reducible refine gate_dst (N := 2) rfl ?_); refine bx (N := 2) (cs := #[.int .i64 a0_0, .int .i64 a0_1, .int .i64 a0_2, .int .i64 a0_3]) (t := 26) ?_; intro gb1019 hg w57 hbox hb; have BK1019 := az hbox; have GW1019 := az ((gE hg (qL HB) : w.heap.size ≤ gb1019)); have GE1019 := GW1019; replace HB := bS HB hb; clear hb hbox hg) | ((with_reducible refine gate_dst (N := 3) rfl ?_); refine bx (N := 3) (cs := #[.int .i64 a1_0, .int .i64 a1_1, .int .i64 a1_2, .int .i64 a1_3]) (t := 26) ?_; intro gb1020 hg w58 hbox hb; have BK1020 := az hbox; have GW1020 := az ((gE hg (qL HB) : w.heap.size ≤ gb1020)); have GE1020 := GW1020; obtain ⟨NB1019_1020, NB1020_1019⟩ := nPB BK1019 hg; replace BK1019 := kBB BK1019 hb; replace HB := bS HB hb; clear hb hbox hg) | ((with_reducible refine gate_dst (N := 4) rfl ?_); refine bx (N := 4) (cs := #[.int .i64 0, .int .i64 0, .int .i64 0]) (t := 56) ?_; intro gb1021 hg w59 hbox hb; have BK1021 := az hbox; have GW1021 := az ((gE hg (qL HB) : w.heap.size ≤ gb1021)); have GE1021 := GW1021; obtain ⟨NB1019_1021, NB1021_1019⟩ := nPB BK1019 hg; obtain ⟨NB1020_1021, NB1021_1020⟩ := nPB BK1020 hg; replace BK1019 := kBB BK1019 hb; replace BK1020 := kBB BK1020 hb; replace HB := bS HB hb; clear hb hbox hg; have hnb60 := NB1019_1020.out; have hnc60 := NB1020_1019.out; have hnb61 := NB1019_1021.out; have hnc61 := NB1021_1019.out; obtain ⟨hcz62_0, hcz62_1, hcz62_2, hcz62_3⟩ := cz4 BK1019.out; obtain ⟨hfz62_0, hfz62_1, hfz62_2, hfz62_3⟩ := fz4 BK1019.out; have hnb63 := NB1020_1021.out; have hnc63 := NB1021_1020.out; obtain ⟨hcz64_0, hcz64_1, hcz64_2, hcz64_3⟩ := cz4 BK1020.out; obtain ⟨hfz64_0, hfz64_1, hfz64_2, hfz64_3⟩ := fz4 BK1020.out) | ((with_reducible refine gate_callee (f := 81) rfl ?_); refine gl (some 11) Try.func81 #[.agg #[.int .i64 a0_0, .int .i64 a0_1, .int .i64 a0_2, .int .i64 a0_3], .agg #[.int .i64 a1_0, .int .i64 a1_1, .int .i64 a1_2, .int .i64 a1_3]] ?_; (with_reducible refine (impl_Box_meets.calls a0_0 a0_1 a0_2 a0_3 a1_0 a1_1 a1_2 a1_3 false _ A3.out).mono ?_); rintro e w65 ⟨rfl, hb⟩; refine ⟨_, rfl, ?_⟩; replace BK1019 := kBB BK1019 hb; replace BK1020 := kBB BK1020 hb; replace BK1021 := kBB BK1021 hb; replace HB := bS HB hb; clear hb; obtain ⟨hcz66_0, hcz66_1, hcz66_2⟩ := cz3 BK1021.out; obtain ⟨hfz66_0, hfz66_1, hfz66_2⟩ := fz3 BK1021.out))
  refine bodyPost_ret (results_ct rfl _ _ gb1021 56 #[.int .i64 0, .int .i64 0, .int .i64 0] (0, 0) _ rfl (qP BK1021) Try.underlying56 rfl (by kernel_rfl)) rfl ?_
  exact ⟨qE, qL HB⟩

/-! ### impl_Shape_bounds: function 76 -/
def impl_Shape_bounds.f (a0_0 : Int) (a0_1 : Int) (a0_2 : Int) (a1_0 : Int) (a1_1 : Int) : Option (Int × Int × Int × Int) := if a0_0 = 1 then ((impl_Vec_minus.f a1_0 a1_1 a0_1 a0_1).bind fun bt1033 => ((impl_Vec_plus.f a1_0 a1_1 a0_1 a0_1).bind fun bt1035 => (some (bt1033.1, bt1033.2, bt1035.1, bt1035.2)))) else ((impl_Vec_minus.f a1_0 a1_1 a0_1 a0_2).bind fun bt1037 => ((impl_Vec_plus.f a1_0 a1_1 a0_1 a0_2).bind fun bt1039 => (some (bt1037.1, bt1037.2, bt1039.1, bt1039.2))))
def impl_Shape_bounds.T4 : Bool × List (List Nat × List Nat) := (true, [([], []), ([], []), ([0, 1], [0, 1]), ([], []), ([], []), ([3, 4, 2], [3, 4]), ([2, 5], [2, 5]), ([6, 5, 0, 1, 2, 3, 4, 5, 6], [6])])
def impl_Shape_bounds.B4 : List Nat := [0, 0, 3, 0, 0, 31, 63, 127]
theorem impl_Shape_bounds.tab4 : rtab .any (opsOf Try.f76 4) = impl_Shape_bounds.T4 := by kernel_rfl
theorem impl_Shape_bounds.bits4 : waitsOk impl_Shape_bounds.T4.2 impl_Shape_bounds.B4 = true := by kernel_rfl
set_option maxHeartbeats 8000000 in
set_option maxRecDepth 100000 in
theorem impl_Shape_bounds.calls (a0_0 : Int) (a0_1 : Int) (a0_2 : Int) (a1_0 : Int) (a1_1 : Int) (r1 : Int) (r2 : Int) (r3 : Int) (r4 : Int) (w : World) (h : impl_Shape_bounds.f a0_0 a0_1 a0_2 a1_0 a1_1 = some (r1, r2, r3, r4)) :
    Calls Try.prog 76 #[.agg #[.int .i64 a0_0, .int .i64 a0_1, .int .i64 a0_2], .agg #[.int .i64 a1_0, .int .i64 a1_1]] w fun e w' => e = .returned (.agg #[.int .i64 r1, .int .i64 r2, .int .i64 r3, .int .i64 r4]) ∧ Below w.heap.size w w' := by
  have hu38 := Try.underlying38
  have hu24 := Try.underlying24
  have hu26 := Try.underlying26
  have HB := az (Below.refl w.heap.size w)
  have H : (if a0_0 = 1 then ((impl_Vec_minus.f a1_0 a1_1 a0_1 a0_1).bind fun bt1033 => ((impl_Vec_plus.f a1_0 a1_1 a0_1 a0_1).bind fun bt1035 => (some (bt1033.1, bt1033.2, bt1035.1, bt1035.2)))) else ((impl_Vec_minus.f a1_0 a1_1 a0_1 a0_2).bind fun bt1037 => ((impl_Vec_plus.f a1_0 a1_1 a0_1 a0_2).bind fun bt1039 => (some (bt1037.1, bt1037.2, bt1039.1, bt1039.2))))) = some (r1, r2, r3, r4) := h
  clear h
  by_cases c3 : a0_0 = 1
  · rw [if_pos c3] at H
    have c3b0 : (a0_0 == 1) = true := beq_iff_eq.mpr c3
    have c3b1 : (a0_0 != 1) = false := bne_eq_false_iff_eq.mpr c3
    clear c3
    replace H := qH H
    obtain ⟨⟨t1033, t1034⟩, A4, H⟩ := H
    try dsimp only at H
    replace H := qH H
    obtain ⟨⟨t1035, t1036⟩, A5, H⟩ := H
    try dsimp only at H
    simp only [Option.some.injEq, Prod.mk.injEq] at H
    obtain ⟨rfl, rfl, rfl, rfl⟩ := H
    go_enter Try.func76, Try.ntmps76
    try go_wp2_with (first | ((with_reducible refine gate_dst (N := 2) rfl ?_); refine bx (N := 2) (cs := #[.int .i64 a0_0, .int .i64 a0_1, .int .i64 a0_2]) (t := 38) ?_; intro gb1029 hg w6 hbox hb; have BK1029 := az hbox; have GW1029 := az ((gE hg (qL HB) : w.heap.size ≤ gb1029)); have GE1029 := GW1029; replace HB := bS HB hb; clear hb hbox hg) | ((with_reducible refine gate_dst (N := 3) rfl ?_); refine bx (N := 3) (cs := #[.int .i64 a1_0, .int .i64 a1_1]) (t := 24) ?_; intro gb1030 hg w7 hbox hb; have BK1030 := az hbox; have GW1030 := az ((gE hg (qL HB) : w.heap.size ≤ gb1030)); have GE1030 := GW1030; obtain ⟨NB1029_1030, NB1030_1029⟩ := nPB BK1029 hg; replace BK1029 := kBB BK1029 hb; replace HB := bS HB hb; clear hb hbox hg) | ((with_reducible refine gate_dst (N := 4) rfl ?_); refine bx (N := 4) (cs := #[.int .i64 0, .int .i64 0, .int .i64 0, .int .i64 0]) (t := 26) ?_; intro gb1031 hg w8 hbox hb; have BK1031 := az hbox; have GW1031 := az ((gE hg (qL HB) : w.heap.size ≤ gb1031)); have GE1031 := GW1031; obtain ⟨NB1029_1031, NB1031_1029⟩ := nPB BK1029 hg; obtain ⟨NB1030_1031, NB1031_1030⟩ := nPB BK1030 hg; replace BK1029 := kBB BK1029 hb; replace BK1030 := kBB BK1030 hb; replace HB := bS HB hb; clear hb hbox hg; have hnb9 := NB1029_1030.out; have hnc9 := NB1030_1029.out; have hnb10 := NB1029_1031.out; have hnc10 := NB1031_1029.out; obtain ⟨hcz11_0, hcz11_1, hcz11_2⟩ := cz3 BK1029.out; obtain ⟨hfz11_0, hfz11_1, hfz11_2⟩ := fz3 BK1029.out) | ((with_reducible refine gate_dst (N := 5) rfl ?_); refine bx (N := 5) (cs := #[.int .i64 0, .int .i64 0]) (t := 24) ?_; intro gb1032 hg w12 hbox hb; have BK1032 := az hbox; have GW1032 := az ((gE hg (qL HB) : w.heap.size ≤ gb1032)); have GE1032 := GW1032; obtain ⟨NB1029_1032, NB1032_1029⟩ := nPB BK1029 hg; obtain ⟨NB1030_1032, NB1032_1030⟩ := nPB BK1030 hg; obtain ⟨NB1031_1032, NB1032_1031⟩ := nPB BK1031 hg; replace BK1029 := kBB BK1029 hb; replace BK1030 := kBB BK1030 hb; replace BK1031 := kBB BK1031 hb; replace HB := bS HB hb; clear hb hbox hg; have hnb13 := NB1032_1029.out; have hnc13 := NB1029_1032.out; have hnb14 := NB1032_1030.out; have hnc14 := NB1030_1032.out; have hnb15 := NB1032_1031.out; have hnc15 := NB1031_1032.out; obtain ⟨hcz16_0, hcz16_1⟩ := cz2 BK1032.out; have hfz16_0 := blk_frozen BK1032.out 0; have hfz16_1 := blk_frozen BK1032.out 1; obtain ⟨hcz17_0, hcz17_1, hcz17_2⟩ := cz3 BK1029.out; obtain ⟨hfz17_0, hfz17_1, hfz17_2⟩ := fz3 BK1029.out))
    obtain ⟨w18, hw_⟩ : ∃ x, x = (((w12.setCell ⟨gb1032, 0, none⟩ (.int .i64 a0_1)).setCell ⟨gb1032, 1, none⟩ (.int .i64 a0_2)).setCell ⟨gb1032, 1, none⟩ (.int .i64 a0_1)) := ⟨_, rfl⟩
    replace BK1029 : Aside0 (w18.heap[gb1029]? = some (.cells #[.int .i64 a0_0, .int .i64 a0_1, .int .i64 a0_2] 38 (0, 0))) := ⟨by rw [hw_]; exact qF BK1029⟩
    replace BK1030 : Aside0 (w18.heap[gb1030]? = some (.cells #[.int .i64 a1_0, .int .i64 a1_1] 24 (0, 0))) := ⟨by rw [hw_]; exact qF BK1030⟩
    replace BK1031 : Aside0 (w18.heap[gb1031]? = some (.cells #[.int .i64 0, .int .i64 0, .int .i64 0, .int .i64 0] 26 (0, 0))) := ⟨by rw [hw_]; exact qF BK1031⟩
    replace BK1032 : Aside0 (w18.heap[gb1032]? = some (.cells #[.int .i64 a0_1, .int .i64 a0_1] 24 (0, 0))) := ⟨by rw [hw_]; exact qP BK1032⟩
    replace HB : Aside0 (Below w.heap.size w w18) := ⟨by rw [hw_]; exact qL HB⟩
    rw [← hw_]
    clear hw_
    replace BK1029 := az (blk_drew BK1029.out)
    replace BK1030 := az (blk_drew BK1030.out)
    replace BK1031 := az (blk_drew BK1031.out)
    replace BK1032 := az (blk_drew BK1032.out)
    replace HB := az (below_drew1 HB.out)
    refine start_ (n := 8) (S := fun w' => w'.cell? ⟨gb1030, 0, none⟩ = some (.int .i64 a1_0) ∧ w'.cell? ⟨gb1030, 1, none⟩ = some (.int .i64 a1_1) ∧ w'.cell? ⟨gb1032, 0, none⟩ = some (.int .i64 a0_1) ∧ w'.cell? ⟨gb1032, 1, none⟩ = some (.int .i64 a0_1)) (ds := []) #[false, false, false, false, false, false, false, false] (by kernel_rfl) rfl rfl ⟨bc BK1030 0, bc BK1030 1, bc BK1032 0, bc BK1032 1⟩ (fun hHeld => ?_); refine with_tabW impl_Shape_bounds.tab4 impl_Shape_bounds.bits4 (fun HT_ HW_ => ?_)
    generalize w18.drew = w19 at BK1029 BK1030 BK1031 BK1032 HB hHeld ⊢
    refine tk4 0 (some 17) (fl 8 1) HT_ HW_ hHeld ?_
    refine tk4 1 (some 18) (fl 8 3) HT_ HW_ hHeld ?_
    refine tk4 3 (some 20) (fl 8 11) HT_ HW_ hHeld ?_
    refine tk4 4 (some 21) (fl 8 27) HT_ HW_ hHeld ?_
    refine on 2 (some 19) (fl 8 31) HT_ (fun K hK => ?_)
    refine go1 Try.func83 #[.agg #[.int .i64 a1_0, .int .i64 a1_1], .agg #[.int .i64 a0_1, .int .i64 a0_1]] ?_
    with_reducible refine (impl_Vec_minus.calls a1_0 a1_1 a0_1 a0_1 t1033 t1034 _ A4.out).mono ?_
    rintro e w20 ⟨rfl, hb⟩
    refine ⟨_, rfl, ?_⟩
    replace BK1029 := kBB BK1029 hb
    replace BK1030 := kBB BK1030 hb
    replace BK1031 := kBB BK1031 hb
    replace BK1032 := kBB BK1032 hb
    replace HB := bS HB hb
    clear hb
    refine hK.out _ _ ⟨bc BK1030 0, bc BK1030 1, bc BK1032 0, bc BK1032 1⟩ (fun hHeld => ?_)
    clear hK K
    refine nm (some 19) ?_
    refine on 5 (some 22) (fl 8 63) HT_ (fun K hK => ?_)
    refine go1 Try.func72 #[.agg #[.int .i64 a1_0, .int .i64 a1_1], .agg #[.int .i64 a0_1, .int .i64 a0_1]] ?_
    with_reducible refine (impl_Vec_plus.calls a1_0 a1_1 a0_1 a0_1 t1035 t1036 _ A5.out).mono ?_
    rintro e w21 ⟨rfl, hb⟩
    refine ⟨_, rfl, ?_⟩
    replace BK1029 := kBB BK1029 hb
    replace BK1030 := kBB BK1030 hb
    replace BK1031 := kBB BK1031 hb
    replace BK1032 := kBB BK1032 hb
    replace HB := bS HB hb
    clear hb
    refine hK.out _ _ ⟨bc BK1030 0, bc BK1030 1, bc BK1032 0, bc BK1032 1⟩ (fun hHeld => ?_)
    clear hK K
    refine nm (some 22) ?_
    refine pu 6 (some 23) (fl 8 127) HT_ ?_
    refine on 7 (none) (fl 8 255) HT_ (fun K hK => ?_)
    have hs22 : w21.cell? ⟨gb1031, 0, none⟩ = some (.int .i64 0) := bc BK1031 0
    have hfs22 := blk_frozen BK1031.out 0
    have hns22_0 := NB1029_1031.out
    have hns22_1 := NB1030_1031.out
    have hns22_3 := NB1032_1031.out
    have hms22_0 := NB1031_1029.out
    have hms22_1 := NB1031_1030.out
    have hms22_3 := NB1031_1032.out
    have hs23 : w21.cell? ⟨gb1031, 1, none⟩ = some (.int .i64 0) := bc BK1031 1
    have hfs23 := blk_frozen BK1031.out 1
    have hns23_0 := NB1029_1031.out
    have hns23_1 := NB1030_1031.out
    have hns23_3 := NB1032_1031.out
    have hms23_0 := NB1031_1029.out
    have hms23_1 := NB1031_1030.out
    have hms23_3 := NB1031_1032.out
    have hs24 : w21.cell? ⟨gb1031, 2, none⟩ = some (.int .i64 0) := bc BK1031 2
    have hfs24 := blk_frozen BK1031.out 2
    have hns24_0 := NB1029_1031.out
    have hns24_1 := NB1030_1031.out
    have hns24_3 := NB1032_1031.out
    have hms24_0 := NB1031_1029.out
    have hms24_1 := NB1031_1030.out
    have hms24_3 := NB1031_1032.out
    have hs25 : w21.cell? ⟨gb1031, 3, none⟩ = some (.int .i64 0) := bc BK1031 3
    have hfs25 := blk_frozen BK1031.out 3
    have hns25_0 := NB1029_1031.out
    have hns25_1 := NB1030_1031.out
    have hns25_3 := NB1032_1031.out
    have hms25_0 := NB1031_1029.out
    have hms25_1 := NB1031_1030.out
    have hms25_3 := NB1031_1032.out
    refine skip_ (w1 := ?_) ?hw ?hn ?_ ?_; (case hw => unfold Region.wanted; rfl); (case hn => rfl)
    rotate_left
    · go_simp
      rfl
    refine hK.out _ _ ⟨(cf NB1030_1031 ((cf NB1030_1031 ((cf NB1030_1031 ((cf NB1030_1031 (hHeld.1)))))))), (cf NB1030_1031 ((cf NB1030_1031 ((cf NB1030_1031 ((cf NB1030_1031 (hHeld.2.1)))))))), (cf NB1032_1031 ((cf NB1032_1031 ((cf NB1032_1031 ((cf NB1032_1031 (hHeld.2.2.1)))))))), (cf NB1032_1031 ((cf NB1032_1031 ((cf NB1032_1031 ((cf NB1032_1031 (hHeld.2.2.2))))))))⟩ (fun hHeld => ?_)
    clear hK K
    refine done_ (done_of HT_.out (by kernel_rfl)) ?_
    try go_wp2
    refine bodyPost_ret (results_cell_row rfl _ _ gb1031 26 #[.int .i64 t1033, .int .i64 t1034, .int .i64 t1035, .int .i64 t1036] (0, 0) _ rfl (qP BK1031) Try.underlying26 rfl (by kernel_rfl)) rfl ?_
    exact ⟨qE, qL HB⟩
  rw [if_neg c3] at H
  have c3b0 : (a0_0 == 1) = false := beq_eq_false_iff_ne.mpr c3
  have c3b1 : (a0_0 != 1) = true := bne_iff_ne.mpr c3
  replace H := qH H
  obtain ⟨⟨t1037, t1038⟩, A26, H⟩ := H
  try dsimp only at H
  replace H := qH H
  obtain ⟨⟨t1039, t1040⟩, A27, H⟩ := H
  try dsimp only at H
  simp only [Option.some.injEq, Prod.mk.injEq] at H
  obtain ⟨rfl, rfl, rfl, rfl⟩ := H
  go_enter Try.func76, Try.ntmps76
  try go_wp2_with (first | ((with_reducible refine gate_dst (N := 2) rfl ?_); refine bx (N := 2) (cs := #[.int .i64 a0_0, .int .i64 a0_1, .int .i64 a0_2]) (t := 38) ?_; intro gb1029 hg w28 hbox hb; have BK1029 := az hbox; have GW1029 := az ((gE hg (qL HB) : w.heap.size ≤ gb1029)); have GE1029 := GW1029; replace HB := bS HB hb; clear hb hbox hg) | ((with_reducible refine gate_dst (N := 3) rfl ?_); refine bx (N := 3) (cs := #[.int .i64 a1_0, .int .i64 a1_1]) (t := 24) ?_; intro gb1030 hg w29 hbox hb; have BK1030 := az hbox; have GW1030 := az ((gE hg (qL HB) : w.heap.size ≤ gb1030)); have GE1030 := GW1030; obtain ⟨NB1029_1030, NB1030_1029⟩ := nPB BK1029 hg; replace BK1029 := kBB BK1029 hb; replace HB := bS HB hb; clear hb hbox hg) | ((with_reducible refine gate_dst (N := 4) rfl ?_); refine bx (N := 4) (cs := #[.int .i64 0, .int .i64 0, .int .i64 0, .int .i64 0]) (t := 26) ?_; intro gb1031 hg w30 hbox hb; have BK1031 := az hbox; have GW1031 := az ((gE hg (qL HB) : w.heap.size ≤ gb1031)); have GE1031 := GW1031; obtain ⟨NB1029_1031, NB1031_1029⟩ := nPB BK1029 hg; obtain ⟨NB1030_1031, NB1031_1030⟩ := nPB BK1030 hg; replace BK1029 := kBB BK1029 hb; replace BK1030 := kBB BK1030 hb; replace HB := bS HB hb; clear hb hbox hg; have hnb31 := NB1029_1030.out; have hnc31 := NB1030_1029.out; have hnb32 := NB1029_1031.out; have hnc32 := NB1031_1029.out; obtain ⟨hcz33_0, hcz33_1, hcz33_2⟩ := cz3 BK1029.out; obtain ⟨hfz33_0, hfz33_1, hfz33_2⟩ := fz3 BK1029.out) | ((with_reducible refine gate_dst (N := 5) rfl ?_); refine bx (N := 5) (cs := #[.int .i64 0, .int .i64 0]) (t := 24) ?_; intro gb1032 hg w34 hbox hb; have BK1032 := az hbox; have GW1032 := az ((gE hg (qL HB) : w.heap.size ≤ gb1032)); have GE1032 := GW1032; obtain ⟨NB1029_1032, NB1032_1029⟩ := nPB BK1029 hg; obtain ⟨NB1030_1032, NB1032_1030⟩ := nPB BK1030 hg; obtain ⟨NB1031_1032, NB1032_1031⟩ := nPB BK1031 hg; replace BK1029 := kBB BK1029 hb; replace BK1030 := kBB BK1030 hb; replace BK1031 := kBB BK1031 hb; replace HB := bS HB hb; clear hb hbox hg; have hnb35 := NB1032_1029.out; have hnc35 := NB1029_1032.out; have hnb36 := NB1032_1030.out; have hnc36 := NB1030_1032.out; have hnb37 := NB1032_1031.out; have hnc37 := NB1031_1032.out; obtain ⟨hcz38_0, hcz38_1⟩ := cz2 BK1032.out; have hfz38_0 := blk_frozen BK1032.out 0; have hfz38_1 := blk_frozen BK1032.out 1; obtain ⟨hcz39_0, hcz39_1, hcz39_2⟩ := cz3 BK1029.out; obtain ⟨hfz39_0, hfz39_1, hfz39_2⟩ := fz3 BK1029.out))
  obtain ⟨w40, hw_⟩ : ∃ x, x = ((w34.setCell ⟨gb1032, 0, none⟩ (.int .i64 a0_1)).setCell ⟨gb1032, 1, none⟩ (.int .i64 a0_2)) := ⟨_, rfl⟩
  replace BK1029 : Aside0 (w40.heap[gb1029]? = some (.cells #[.int .i64 a0_0, .int .i64 a0_1, .int .i64 a0_2] 38 (0, 0))) := ⟨by rw [hw_]; exact qF BK1029⟩
  replace BK1030 : Aside0 (w40.heap[gb1030]? = some (.cells #[.int .i64 a1_0, .int .i64 a1_1] 24 (0, 0))) := ⟨by rw [hw_]; exact qF BK1030⟩
  replace BK1031 : Aside0 (w40.heap[gb1031]? = some (.cells #[.int .i64 0, .int .i64 0, .int .i64 0, .int .i64 0] 26 (0, 0))) := ⟨by rw [hw_]; exact qF BK1031⟩
  replace BK1032 : Aside0 (w40.heap[gb1032]? = some (.cells #[.int .i64 a0_1, .int .i64 a0_2] 24 (0, 0))) := ⟨by rw [hw_]; exact qP BK1032⟩
  replace HB : Aside0 (Below w.heap.size w w40) := ⟨by rw [hw_]; exact qL HB⟩
  rw [← hw_]
  clear hw_
  replace BK1029 := az (blk_drew BK1029.out)
  replace BK1030 := az (blk_drew BK1030.out)
  replace BK1031 := az (blk_drew BK1031.out)
  replace BK1032 := az (blk_drew BK1032.out)
  replace HB := az (below_drew1 HB.out)
  refine start_ (n := 8) (S := fun w' => w'.cell? ⟨gb1030, 0, none⟩ = some (.int .i64 a1_0) ∧ w'.cell? ⟨gb1030, 1, none⟩ = some (.int .i64 a1_1) ∧ w'.cell? ⟨gb1032, 0, none⟩ = some (.int .i64 a0_1) ∧ w'.cell? ⟨gb1032, 1, none⟩ = some (.int .i64 a0_2)) (ds := []) #[false, false, false, false, false, false, false, false] (by kernel_rfl) rfl rfl ⟨bc BK1030 0, bc BK1030 1, bc BK1032 0, bc BK1032 1⟩ (fun hHeld => ?_); refine with_tabW impl_Shape_bounds.tab4 impl_Shape_bounds.bits4 (fun HT_ HW_ => ?_)
  generalize w40.drew = w41 at BK1029 BK1030 BK1031 BK1032 HB hHeld ⊢
  refine tk4 0 (some 17) (fl 8 1) HT_ HW_ hHeld ?_
  refine tk4 1 (some 18) (fl 8 3) HT_ HW_ hHeld ?_
  refine tk4 3 (some 20) (fl 8 11) HT_ HW_ hHeld ?_
  refine tk4 4 (some 21) (fl 8 27) HT_ HW_ hHeld ?_
  refine on 2 (some 19) (fl 8 31) HT_ (fun K hK => ?_)
  refine go1 Try.func83 #[.agg #[.int .i64 a1_0, .int .i64 a1_1], .agg #[.int .i64 a0_1, .int .i64 a0_2]] ?_
  with_reducible refine (impl_Vec_minus.calls a1_0 a1_1 a0_1 a0_2 t1037 t1038 _ A26.out).mono ?_
  rintro e w42 ⟨rfl, hb⟩
  refine ⟨_, rfl, ?_⟩
  replace BK1029 := kBB BK1029 hb
  replace BK1030 := kBB BK1030 hb
  replace BK1031 := kBB BK1031 hb
  replace BK1032 := kBB BK1032 hb
  replace HB := bS HB hb
  clear hb
  refine hK.out _ _ ⟨bc BK1030 0, bc BK1030 1, bc BK1032 0, bc BK1032 1⟩ (fun hHeld => ?_)
  clear hK K
  refine nm (some 19) ?_
  refine on 5 (some 22) (fl 8 63) HT_ (fun K hK => ?_)
  refine go1 Try.func72 #[.agg #[.int .i64 a1_0, .int .i64 a1_1], .agg #[.int .i64 a0_1, .int .i64 a0_2]] ?_
  with_reducible refine (impl_Vec_plus.calls a1_0 a1_1 a0_1 a0_2 t1039 t1040 _ A27.out).mono ?_
  rintro e w43 ⟨rfl, hb⟩
  refine ⟨_, rfl, ?_⟩
  replace BK1029 := kBB BK1029 hb
  replace BK1030 := kBB BK1030 hb
  replace BK1031 := kBB BK1031 hb
  replace BK1032 := kBB BK1032 hb
  replace HB := bS HB hb
  clear hb
  refine hK.out _ _ ⟨bc BK1030 0, bc BK1030 1, bc BK1032 0, bc BK1032 1⟩ (fun hHeld => ?_)
  clear hK K
  refine nm (some 22) ?_
  refine pu 6 (some 23) (fl 8 127) HT_ ?_
  refine on 7 (none) (fl 8 255) HT_ (fun K hK => ?_)
  have hs44 : w43.cell? ⟨gb1031, 0, none⟩ = some (.int .i64 0) := bc BK1031 0
  have hfs44 := blk_frozen BK1031.out 0
  have hns44_0 := NB1029_1031.out
  have hns44_1 := NB1030_1031.out
  have hns44_3 := NB1032_1031.out
  have hms44_0 := NB1031_1029.out
  have hms44_1 := NB1031_1030.out
  have hms44_3 := NB1031_1032.out
  have hs45 : w43.cell? ⟨gb1031, 1, none⟩ = some (.int .i64 0) := bc BK1031 1
  have hfs45 := blk_frozen BK1031.out 1
  have hns45_0 := NB1029_1031.out
  have hns45_1 := NB1030_1031.out
  have hns45_3 := NB1032_1031.out
  have hms45_0 := NB1031_1029.out
  have hms45_1 := NB1031_1030.out
  have hms45_3 := NB1031_1032.out
  have hs46 : w43.cell? ⟨gb1031, 2, none⟩ = some (.int .i64 0) := bc BK1031 2
  have hfs46 := blk_frozen BK1031.out 2
  have hns46_0 := NB1029_1031.out
  have hns46_1 := NB1030_1031.out
  have hns46_3 := NB1032_1031.out
  have hms46_0 := NB1031_1029.out
  have hms46_1 := NB1031_1030.out
  have hms46_3 := NB1031_1032.out
  have hs47 : w43.cell? ⟨gb1031, 3, none⟩ = some (.int .i64 0) := bc BK1031 3
  have hfs47 := blk_frozen BK1031.out 3
  have hns47_0 := NB1029_1031.out
  have hns47_1 := NB1030_1031.out
  have hns47_3 := NB1032_1031.out
  have hms47_0 := NB1031_1029.out
  have hms47_1 := NB1031_1030.out
  have hms47_3 := NB1031_1032.out
  refine skip_ (w1 := ?_) ?hw ?hn ?_ ?_; (case hw => unfold Region.wanted; rfl); (case hn => rfl)
  rotate_left
  · go_simp
    rfl
  refine hK.out _ _ ⟨(cf NB1030_1031 ((cf NB1030_1031 ((cf NB1030_1031 ((cf NB1030_1031 (hHeld.1)))))))), (cf NB1030_1031 ((cf NB1030_1031 ((cf NB1030_1031 ((cf NB1030_1031 (hHeld.2.1)))))))), (cf NB1032_1031 ((cf NB1032_1031 ((cf NB1032_1031 ((cf NB1032_1031 (hHeld.2.2.1)))))))), (cf NB1032_1031 ((cf NB1032_1031 ((cf NB1032_1031 ((cf NB1032_1031 (hHeld.2.2.2))))))))⟩ (fun hHeld => ?_)
  clear hK K
  refine done_ (done_of HT_.out (by kernel_rfl)) ?_
  try go_wp2
  refine bodyPost_ret (results_cell_row rfl _ _ gb1031 26 #[.int .i64 t1037, .int .i64 t1038, .int .i64 t1039, .int .i64 t1040] (0, 0) _ rfl (qP BK1031) Try.underlying26 rfl (by kernel_rfl)) rfl ?_
  exact ⟨qE, qL HB⟩

/-! ### impl_Box_near: function 82 -/
def impl_Box_near.f (a0_0 : Int) (a0_1 : Int) (a0_2 : Int) (a0_3 : Int) (a1_0 : Int) (a1_1 : Int) : Option (Int × Int) := some (mx a0_0 (mn a1_0 a0_2), mx a0_1 (mn a1_1 a0_3))
set_option maxHeartbeats 8000000 in
set_option maxRecDepth 100000 in
theorem impl_Box_near.calls (a0_0 : Int) (a0_1 : Int) (a0_2 : Int) (a0_3 : Int) (a1_0 : Int) (a1_1 : Int) (r1 : Int) (r2 : Int) (w : World) (h : impl_Box_near.f a0_0 a0_1 a0_2 a0_3 a1_0 a1_1 = some (r1, r2)) :
    Calls Try.prog 82 #[.agg #[.int .i64 a0_0, .int .i64 a0_1, .int .i64 a0_2, .int .i64 a0_3], .agg #[.int .i64 a1_0, .int .i64 a1_1]] w fun e w' => e = .returned (.agg #[.int .i64 r1, .int .i64 r2]) ∧ Below w.heap.size w w' := by
  have hu26 := Try.underlying26
  have hu24 := Try.underlying24
  have HB := az (Below.refl w.heap.size w)
  have H : (some (mx a0_0 (mn a1_0 a0_2), mx a0_1 (mn a1_1 a0_3))) = some (r1, r2) := h
  clear h
  obtain ⟨ji3, hji3⟩ : ∃ j_ : Int, (mn a1_0 a0_2) = j_ := ⟨_, rfl⟩
  replace H : (some (mx a0_0 (ji3), mx a0_1 (mn a1_1 a0_3))) = some (r1, r2) := by first | (rw [hji3] at H; exact H) | (simp only [hji3] at H ⊢; exact H)
  have hji3_ : (if a0_2 < a1_0 then a0_2 else a1_0) = ji3 := hji3
  obtain ⟨ji4, hji4⟩ : ∃ j_ : Int, (mx a0_0 (ji3)) = j_ := ⟨_, rfl⟩
  replace H : (some (ji4, mx a0_1 (mn a1_1 a0_3))) = some (r1, r2) := by first | (rw [hji4] at H; exact H) | (simp only [hji4] at H ⊢; exact H)
  have hji4_ : (if a0_0 < (ji3) then (ji3) else a0_0) = ji4 := hji4
  obtain ⟨ji5, hji5⟩ : ∃ j_ : Int, (mn a1_1 a0_3) = j_ := ⟨_, rfl⟩
  replace H : (some (ji4, mx a0_1 (ji5))) = some (r1, r2) := by first | (rw [hji5] at H; exact H) | (simp only [hji5] at H ⊢; exact H)
  have hji5_ : (if a0_3 < a1_1 then a0_3 else a1_1) = ji5 := hji5
  obtain ⟨ji6, hji6⟩ : ∃ j_ : Int, (mx a0_1 (ji5)) = j_ := ⟨_, rfl⟩
  replace H : (some (ji4, ji6)) = some (r1, r2) := by first | (rw [hji6] at H; exact H) | (simp only [hji6] at H ⊢; exact H)
  have hji6_ : (if a0_1 < (ji5) then (ji5) else a0_1) = ji6 := hji6
  simp only [Option.some.injEq, Prod.mk.injEq] at H
  obtain ⟨rfl, rfl⟩ := H
  go_enter Try.func82, Try.ntmps82
  go_wp2_with (first | ((with_reducible refine gate_dst (N := 2) rfl ?_); refine bx (N := 2) (cs := #[.int .i64 a0_0, .int .i64 a0_1, .int .i64 a0_2, .int .i64 a0_3]) (t := 26) ?_; intro gb1041 hg w7 hbox hb; have BK1041 := az hbox; have GW1041 := az ((gE hg (qL HB) : w.heap.size ≤ gb1041)); have GE1041 := GW1041; replace HB := bS HB hb; clear hb hbox hg) | ((with_reducible refine gate_dst (N := 3) rfl ?_); refine bx (N := 3) (cs := #[.int .i64 a1_0, .int .i64 a1_1]) (t := 24) ?_; intro gb1042 hg w8 hbox hb; have BK1042 := az hbox; have GW1042 := az ((gE hg (qL HB) : w.heap.size ≤ gb1042)); have GE1042 := GW1042; obtain ⟨NB1041_1042, NB1042_1041⟩ := nPB BK1041 hg; replace BK1041 := kBB BK1041 hb; replace HB := bS HB hb; clear hb hbox hg) | ((with_reducible refine gate_dst (N := 4) rfl ?_); refine bx (N := 4) (cs := #[.int .i64 0, .int .i64 0]) (t := 24) ?_; intro gb1043 hg w9 hbox hb; have BK1043 := az hbox; have GW1043 := az ((gE hg (qL HB) : w.heap.size ≤ gb1043)); have GE1043 := GW1043; obtain ⟨NB1041_1043, NB1043_1041⟩ := nPB BK1041 hg; obtain ⟨NB1042_1043, NB1043_1042⟩ := nPB BK1042 hg; replace BK1041 := kBB BK1041 hb; replace BK1042 := kBB BK1042 hb; replace HB := bS HB hb; clear hb hbox hg; have hnb10 := NB1041_1042.out; have hnc10 := NB1042_1041.out; have hnb11 := NB1041_1043.out; have hnc11 := NB1043_1041.out; obtain ⟨hcz12_0, hcz12_1, hcz12_2, hcz12_3⟩ := cz4 BK1041.out; obtain ⟨hfz12_0, hfz12_1, hfz12_2, hfz12_3⟩ := fz4 BK1041.out; have hnb13 := NB1042_1043.out; have hnc13 := NB1043_1042.out; obtain ⟨hcz14_0, hcz14_1⟩ := cz2 BK1042.out; have hfz14_0 := blk_frozen BK1042.out 0; have hfz14_1 := blk_frozen BK1042.out 1; obtain ⟨hcz15_0, hcz15_1⟩ := cz2 BK1043.out; have hfz15_0 := blk_frozen BK1043.out 0; have hfz15_1 := blk_frozen BK1043.out 1))
  refine bodyPost_ret (results_cell_row rfl _ _ gb1043 24 #[.int .i64 ji4, .int .i64 ji6] (0, 0) _ rfl (qP BK1043) Try.underlying24 rfl (by kernel_rfl)) rfl ?_
  exact ⟨by first | rfl | (simp [errW_none, errW_some] <;> rfl) | (simp only [← hji3, ← hji4, ← hji5, ← hji6]; first | rfl | (simp [errW_none, errW_some] <;> rfl)) | (simp [*, errW_none, errW_some] <;> rfl), qL HB⟩
end Go.Proofs.Ytihajbjkjclmoaa.PBig
