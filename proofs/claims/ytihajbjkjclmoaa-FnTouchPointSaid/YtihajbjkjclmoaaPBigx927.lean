/- What these functions compute, each walked once: impl_Vec_minus, impl_Vec_square, impl_FixClamp, impl_root, impl_VecLen, impl_VecUnit, impl_rounds, impl_Box_meets; for all arguments and worlds, under the conditions that each theorem names. -/
import Derived.Test.YtihajbjkjclmoaaSq
import Derived.Test.YtihajbjkjclmoaaPBigx907
namespace Go.Proofs.Ytihajbjkjclmoaa.PBig
open Go.RowKit Go.Proofs.YtihajbjkjclmoaaW.PrintWords Go.Proofs.YtihajbjkjclmoaaW.PrintLast Go.Proofs.YtihajbjkjclmoaaW.PrintMore
attribute [local go_sem] max2_int min2_int max_two min_two max_three min_three max_four min_four   -- for this text's walks alone
set_option linter.unusedVariables false
set_option linter.unusedSimpArgs false

/-! ### impl_Vec_minus: function 83 -/
def impl_Vec_minus.f (a0_0 : Int) (a0_1 : Int) (a1_0 : Int) (a1_1 : Int) : Option (Int × Int) := some (wrap64 (a0_0 - a1_0), wrap64 (a0_1 - a1_1))
set_option maxHeartbeats 8000000 in
set_option maxRecDepth 100000 in
theorem impl_Vec_minus.calls (a0_0 : Int) (a0_1 : Int) (a1_0 : Int) (a1_1 : Int) (r1 : Int) (r2 : Int) (w : World) (h : impl_Vec_minus.f a0_0 a0_1 a1_0 a1_1 = some (r1, r2)) :
    Calls Try.prog 83 #[.agg #[.int .i64 a0_0, .int .i64 a0_1], .agg #[.int .i64 a1_0, .int .i64 a1_1]] w fun e w' => e = .returned (.agg #[.int .i64 r1, .int .i64 r2]) ∧ Below w.heap.size w w' := by
  have hu24 := Try.underlying24
  have HB := az (Below.refl w.heap.size w)
  have H : (some (wrap64 (a0_0 - a1_0), wrap64 (a0_1 - a1_1))) = some (r1, r2) := h
  clear h
  simp only [Option.some.injEq, Prod.mk.injEq] at H
  obtain ⟨rfl, rfl⟩ := H
  go_enter Try.func83, Try.ntmps83
  go_wp2_with (first | ((with_reducible refine gate_dst (N := 2) rfl ?_); refine bx (N := 2) (cs := #[.int .i64 a0_0, .int .i64 a0_1]) (t := 24) ?_; intro gb991 hg w3 hbox hb; have BK991 := az hbox; have GW991 := az ((gE hg (qL HB) : w.heap.size ≤ gb991)); have GE991 := GW991; replace HB := bS HB hb; clear hb hbox hg) | ((with_reducible refine gate_dst (N := 3) rfl ?_); refine bx (N := 3) (cs := #[.int .i64 a1_0, .int .i64 a1_1]) (t := 24) ?_; intro gb992 hg w4 hbox hb; have BK992 := az hbox; have GW992 := az ((gE hg (qL HB) : w.heap.size ≤ gb992)); have GE992 := GW992; obtain ⟨NB991_992, NB992_991⟩ := nPB BK991 hg; replace BK991 := kBB BK991 hb; replace HB := bS HB hb; clear hb hbox hg) | ((with_reducible refine gate_dst (N := 4) rfl ?_); refine bx (N := 4) (cs := #[.int .i64 0, .int .i64 0]) (t := 24) ?_; intro gb993 hg w5 hbox hb; have BK993 := az hbox; have GW993 := az ((gE hg (qL HB) : w.heap.size ≤ gb993)); have GE993 := GW993; obtain ⟨NB991_993, NB993_991⟩ := nPB BK991 hg; obtain ⟨NB992_993, NB993_992⟩ := nPB BK992 hg; replace BK991 := kBB BK991 hb; replace BK992 := kBB BK992 hb; replace HB := bS HB hb; clear hb hbox hg; have hnb6 := NB991_992.out; have hnc6 := NB992_991.out; have hnb7 := NB991_993.out; have hnc7 := NB993_991.out; obtain ⟨hcz8_0, hcz8_1⟩ := cz2 BK991.out; have hfz8_0 := blk_frozen BK991.out 0; have hfz8_1 := blk_frozen BK991.out 1; have hnb9 := NB992_993.out; have hnc9 := NB993_992.out; obtain ⟨hcz10_0, hcz10_1⟩ := cz2 BK992.out; have hfz10_0 := blk_frozen BK992.out 0; have hfz10_1 := blk_frozen BK992.out 1; obtain ⟨hcz11_0, hcz11_1⟩ := cz2 BK993.out; have hfz11_0 := blk_frozen BK993.out 0; have hfz11_1 := blk_frozen BK993.out 1))
  refine bodyPost_ret (results_cell_row rfl _ _ gb993 24 #[.int .i64 (wrap64 (a0_0 - a1_0)), .int .i64 (wrap64 (a0_1 - a1_1))] (0, 0) _ rfl (qP BK993) Try.underlying24 rfl (by kernel_rfl)) rfl ?_
  exact ⟨qE, qL HB⟩

/-! ### impl_Vec_square: function 84 -/
def impl_Vec_square.f (a0_0 : Int) (a0_1 : Int) : Option (Int) := some (wrap64 ((wrap64 (a0_0 * a0_0)) + (wrap64 (a0_1 * a0_1))))
set_option maxHeartbeats 8000000 in
set_option maxRecDepth 100000 in
theorem impl_Vec_square.calls (a0_0 : Int) (a0_1 : Int) (r : Int) (w : World) (h : impl_Vec_square.f a0_0 a0_1 = some r) :
    Calls Try.prog 84 #[.agg #[.int .i64 a0_0, .int .i64 a0_1]] w fun e w' => e = .returned (.int .i64 r) ∧ Below w.heap.size w w' := by
  have hu24 := Try.underlying24
  have HB := az (Below.refl w.heap.size w)
  have H : (some (wrap64 ((wrap64 (a0_0 * a0_0)) + (wrap64 (a0_1 * a0_1))))) = some r := h
  clear h
  obtain rfl := Option.some.inj H
  go_enter Try.func84, Try.ntmps84
  go_wp2_with (first | ((with_reducible refine gate_dst (N := 1) rfl ?_); refine bx (N := 1) (cs := #[.int .i64 a0_0, .int .i64 a0_1]) (t := 24) ?_; intro gb994 hg w2 hbox hb; have BK994 := az hbox; have GW994 := az ((gE hg (qL HB) : w.heap.size ≤ gb994)); have GE994 := GW994; replace HB := bS HB hb; clear hb hbox hg; obtain ⟨hcz3_0, hcz3_1⟩ := cz2 BK994.out; have hfz3_0 := blk_frozen BK994.out 0; have hfz3_1 := blk_frozen BK994.out 1))
  go_ret
  exact ⟨qE, qL HB⟩

/-! ### impl_FixClamp: function 105 -/
def impl_FixClamp.f (a0 : Int) : Option (Int) := (impl_within.f a0 1000000000).bind fun t995 => (some t995)
set_option maxHeartbeats 8000000 in
set_option maxRecDepth 100000 in
theorem impl_FixClamp.calls (a0 : Int) (r : Int) (w : World) (h : impl_FixClamp.f a0 = some r) :
    Calls Try.prog 105 #[.int .i64 a0] w fun e w' => e = .returned (.int .i64 r) ∧ Below w.heap.size w w' := by
  have HB := az (Below.refl w.heap.size w)
  have H : ((impl_within.f a0 1000000000).bind fun t995 => (some t995)) = some r := h
  clear h
  replace H := qH H
  obtain ⟨t995, A2, H⟩ := H
  try dsimp only at H
  obtain rfl := Option.some.inj H
  go_enter Try.func105, Try.ntmps105
  go_wp2_with (first | ((with_reducible refine gate_callee (f := 89) rfl ?_); refine gl (some 4) Try.func89 #[.int .i64 a0, .int .i64 1000000000] ?_; (with_reducible refine (impl_within.calls a0 1000000000 t995 _ A2.out).mono ?_); rintro e w3 ⟨rfl, hb⟩; refine ⟨_, rfl, ?_⟩; replace HB := bS HB hb; clear hb))
  go_ret
  exact ⟨qE, qL HB⟩

/-! ### impl_root: function 106 -/
def impl_root.l0 : Nat → Int → Int → Int → Option (Int)
  | 0, _, _, _ => none
  | k + 1, x0, x3, x4 => if (wrap64 (x4 - x3)) > 1 then (if (wrap64 ((wrap64 (Int.tdiv (wrap64 (x3 + x4)) 2)) * (wrap64 (Int.tdiv (wrap64 (x3 + x4)) 2)))) ≤ x0 then (impl_root.l0 k x0 (wrap64 (Int.tdiv (wrap64 (x3 + x4)) 2)) x4) else (impl_root.l0 k x0 x3 (wrap64 (Int.tdiv (wrap64 (x3 + x4)) 2)))) else (some x3)
def impl_root.f (k : Nat) (a0 : Int) : Option (Int) := impl_root.l0 k a0 0 2147483648
theorem impl_root.mono_l : ∀ k, (∀ y0 y1 y2, LeO (impl_root.l0 k y0 y1 y2) (impl_root.l0 (k + 1) y0 y1 y2))
  | 0 => fun _ _ _ r h => by simp [impl_root.l0] at h
  | k + 1 => by
    have ih0 := impl_root.mono_l k
    · intro y0 y1 y2
      unfold impl_root.l0
      repeat' first
      | (with_reducible exact ih0 _ _ _)
      | (with_reducible exact LeO.refl _)
      | (with_reducible exact LeO.none _)
      | (with_reducible refine LeO.ite ?_ ?_)
      | (with_reducible refine LeO.bind ?_ (fun _ => ?_))
theorem impl_root.mono : ∀ a0 k, LeO (impl_root.f k a0) (impl_root.f (k + 1) a0) := by
  intro a0 k
  have ih0 := impl_root.mono_l k
  unfold impl_root.f
  repeat' first
      | (with_reducible exact ih0 _ _ _)
      | (with_reducible exact LeO.refl _)
      | (with_reducible exact LeO.none _)
      | (with_reducible refine LeO.ite ?_ ?_)
      | (with_reducible refine LeO.bind ?_ (fun _ => ?_))
set_option maxHeartbeats 8000000 in
set_option maxRecDepth 100000 in
theorem impl_root.calls (k : Nat) (a0 : Int) (r : Int) (w : World) (h : impl_root.f k a0 = some r) :
    Calls Try.prog 106 #[.int .i64 a0] w fun e w' => e = .returned (.int .i64 r) ∧ Drawn0 w w' := by
  have H : (impl_root.l0 k a0 0 2147483648) = some r := h
  clear h
  have H' := az H
  clear H
  go_enter Try.func106, Try.ntmps106
  go_wp2
  go_loopg [3, 4] k (fun kq v3 v4 w' => ∃ (x3_1 : Int) (x4_1 : Int), v3 = .int .i64 x3_1 ∧ v4 = .int .i64 x4_1 ∧ Aside0 (impl_root.l0 kq a0 x3_1 x4_1 = some r) ∧ Aside0 (kq ≤ k) ∧ Drawn0 w w')
  case atStart => exact ⟨(0), (2147483648), (by first | rfl | (simp; done) | (simp [*]; done)), (by first | rfl | (simp; done) | (simp [*]; done)), H', ⟨Nat.le_refl _⟩, by repeat (first | exact Drawn0.refl _ | apply Drawn0.step)⟩
  case round =>
    clear H'
    try clear c1
    obtain ⟨x3_1, x4_1, rfl, rfl, HA, HK1, ⟨m1, rfl⟩⟩ := hrel
    cases gk with
    | zero => exact absurd HA.out (by simp [impl_root.l0])
    | succ k1 => ?_
    have H := HA.out
    clear HA
    simp only [impl_root.l0] at H
    by_cases c2 : (wrap64 (x4_1 - x3_1)) > 1
    · rw [if_pos c2] at H
      have c2b0 : decide (1 < (wrap64 (x4_1 - x3_1))) = true := decide_eq_true c2
      clear c2
      by_cases c3 : (wrap64 ((wrap64 (Int.tdiv (wrap64 (x3_1 + x4_1)) 2)) * (wrap64 (Int.tdiv (wrap64 (x3_1 + x4_1)) 2)))) ≤ a0
      · rw [if_pos c3] at H
        have c3b0 : decide ((wrap64 ((wrap64 (Int.tdiv (wrap64 (x3_1 + x4_1)) 2)) * (wrap64 (Int.tdiv (wrap64 (x3_1 + x4_1)) 2)))) ≤ a0) = true := decide_eq_true c3
        clear c3
        have H' := az H
        clear H
        go_wp2
        go_roundg k1
        case measure => have := HK1.out; omega
        case rel => exact ⟨(wrap64 (Int.tdiv (wrap64 (x3_1 + x4_1)) 2)), (x4_1), (by first | rfl | (simp; done) | (simp [*]; done)), (by first | rfl | (simp; done) | (simp [*]; done)), H', ⟨by have := HK1.out; omega⟩, by repeat (first | exact Drawn0.refl _ | apply Drawn0.step)⟩
      rw [if_neg c3] at H
      have c3b0 : decide ((wrap64 ((wrap64 (Int.tdiv (wrap64 (x3_1 + x4_1)) 2)) * (wrap64 (Int.tdiv (wrap64 (x3_1 + x4_1)) 2)))) ≤ a0) = false := decide_eq_false c3
      clear c3
      have H' := az H
      clear H
      go_wp2
      go_roundg k1
      case measure => have := HK1.out; omega
      case rel => exact ⟨(x3_1), (wrap64 (Int.tdiv (wrap64 (x3_1 + x4_1)) 2)), (by first | rfl | (simp; done) | (simp [*]; done)), (by first | rfl | (simp; done) | (simp [*]; done)), H', ⟨by have := HK1.out; omega⟩, by repeat (first | exact Drawn0.refl _ | apply Drawn0.step)⟩
    rw [if_neg c2] at H
    have c2b0 : decide (1 < (wrap64 (x4_1 - x3_1))) = false := decide_eq_false c2
    clear c2
    obtain rfl := Option.some.inj H
    go_wp2
    go_ret
    exact ⟨by first | rfl | (simp; done) | (simp [*]; done), by repeat (first | exact Drawn0.refl _ | apply Drawn0.step)⟩

/-! ### impl_VecLen: function 96 -/
def impl_VecLen.f (k : Nat) (a0_0 : Int) (a0_1 : Int) : Option (Int) := (impl_Vec_clamped.f a0_0 a0_1 1000000000).bind fun bt997 => ((impl_Vec_square.f bt997.1 bt997.2).bind fun t999 => ((impl_root.f k t999).bind fun t1000 => ((impl_FixClamp.f t1000).bind fun t1001 => (some t1001))))
theorem impl_VecLen.mono : ∀ a0 a1 k, LeO (impl_VecLen.f k a0 a1) (impl_VecLen.f (k + 1) a0 a1) := by
  intro a0 a1 k
  unfold impl_VecLen.f
  repeat' first
      | (with_reducible exact impl_root.mono _ _)
      | (with_reducible exact LeO.refl _)
      | (with_reducible exact LeO.none _)
      | (with_reducible refine LeO.ite ?_ ?_)
      | (with_reducible refine LeO.bind ?_ (fun _ => ?_))
set_option maxHeartbeats 8000000 in
set_option maxRecDepth 100000 in
theorem impl_VecLen.calls (k : Nat) (a0_0 : Int) (a0_1 : Int) (r : Int) (w : World) (h : impl_VecLen.f k a0_0 a0_1 = some r) :
    Calls Try.prog 96 #[.agg #[.int .i64 a0_0, .int .i64 a0_1]] w fun e w' => e = .returned (.int .i64 r) ∧ Below w.heap.size w w' := by
  have hu24 := Try.underlying24
  have HB := az (Below.refl w.heap.size w)
  have H : ((impl_Vec_clamped.f a0_0 a0_1 1000000000).bind fun bt997 => ((impl_Vec_square.f bt997.1 bt997.2).bind fun t999 => ((impl_root.f k t999).bind fun t1000 => ((impl_FixClamp.f t1000).bind fun t1001 => (some t1001))))) = some r := h
  clear h
  replace H := qH H
  obtain ⟨⟨t997, t998⟩, A2, H⟩ := H
  try dsimp only at H
  replace H := qH H
  obtain ⟨t999, A3, H⟩ := H
  try dsimp only at H
  replace H := qH H
  obtain ⟨t1000, A4, H⟩ := H
  try dsimp only at H
  replace H := qH H
  obtain ⟨t1001, A5, H⟩ := H
  try dsimp only at H
  obtain rfl := Option.some.inj H
  go_enter Try.func96, Try.ntmps96
  go_wp2_with (first | ((with_reducible refine gate_dst (N := 1) rfl ?_); refine bx (N := 1) (cs := #[.int .i64 a0_0, .int .i64 a0_1]) (t := 24) ?_; intro gb996 hg w6 hbox hb; have BK996 := az hbox; have GW996 := az ((gE hg (qL HB) : w.heap.size ≤ gb996)); have GE996 := GW996; replace HB := bS HB hb; clear hb hbox hg; obtain ⟨hcz7_0, hcz7_1⟩ := cz2 BK996.out; have hfz7_0 := blk_frozen BK996.out 0; have hfz7_1 := blk_frozen BK996.out 1) | ((with_reducible refine gate_callee (f := 71) rfl ?_); refine gl (some 4) Try.func71 #[.agg #[.int .i64 a0_0, .int .i64 a0_1], .int .i64 1000000000] ?_; (with_reducible refine (impl_Vec_clamped.calls a0_0 a0_1 1000000000 t997 t998 _ A2.out).mono ?_); rintro e w8 ⟨rfl, hb⟩; refine ⟨_, rfl, ?_⟩; replace BK996 := kBB BK996 hb; replace HB := bS HB hb; clear hb) | ((with_reducible refine gate_callee (f := 84) rfl ?_); refine gl (some 5) Try.func84 #[.agg #[.int .i64 t997, .int .i64 t998]] ?_; (with_reducible refine (impl_Vec_square.calls t997 t998 t999 _ A3.out).mono ?_); rintro e w9 ⟨rfl, hb⟩; refine ⟨_, rfl, ?_⟩; replace BK996 := kBB BK996 hb; replace HB := bS HB hb; clear hb) | ((with_reducible refine gate_callee (f := 106) rfl ?_); refine gl (some 6) Try.func106 #[.int .i64 t999] ?_; (with_reducible refine (impl_root.calls k t999 t1000 _ A4.out).mono ?_); rintro e w' ⟨rfl, ⟨nd, rfl⟩⟩; refine ⟨_, rfl, ?_⟩) | ((with_reducible refine gate_callee (f := 105) rfl ?_); refine gl (some 7) Try.func105 #[.int .i64 t1000] ?_; (with_reducible refine (impl_FixClamp.calls t1000 t1001 _ A5.out).mono ?_); rintro e w10 ⟨rfl, hb⟩; refine ⟨_, rfl, ?_⟩; replace BK996 := kBB BK996 hb; replace HB := bS HB hb; clear hb))
  go_ret
  exact ⟨qE, qL HB⟩

/-! ### impl_VecUnit: function 95 -/
def impl_VecUnit.f (k : Nat) (a0_0 : Int) (a0_1 : Int) : Option (Int × Int) := (impl_Vec_clamped.f a0_0 a0_1 1000000000).bind fun bt1004 => ((impl_VecLen.f k bt1004.1 bt1004.2).bind fun t1006 => (if t1006 = 0 then (some (0, 256)) else (some (wrap64 (Int.tdiv (wrap64 (bt1004.1 * 256)) t1006), wrap64 (Int.tdiv (wrap64 (bt1004.2 * 256)) t1006)))))
theorem impl_VecUnit.mono : ∀ a0 a1 k, LeO (impl_VecUnit.f k a0 a1) (impl_VecUnit.f (k + 1) a0 a1) := by
  intro a0 a1 k
  unfold impl_VecUnit.f
  repeat' first
      | (with_reducible exact impl_VecLen.mono _ _ _)
      | (with_reducible exact LeO.refl _)
      | (with_reducible exact LeO.none _)
      | (with_reducible refine LeO.ite ?_ ?_)
      | (with_reducible refine LeO.bind ?_ (fun _ => ?_))
def impl_VecUnit.T5 : Bool × List (List Nat × List Nat) := (true, [([], []), ([0], [0]), ([1], [1]), ([], []), ([2, 3], [2, 3]), ([], []), ([5], [5]), ([6], [6]), ([], []), ([7, 8], [7, 8]), ([4, 9], [4, 9]), ([10, 0, 1, 2, 3, 4, 5, 6, 7, 8, 9, 10], [10])])
def impl_VecUnit.B5 : List Nat := [0, 1, 3, 0, 15, 0, 32, 96, 0, 480, 1023, 2047]
theorem impl_VecUnit.tab5 : rtab .any (opsOf Try.f95 5) = impl_VecUnit.T5 := by kernel_rfl
theorem impl_VecUnit.bits5 : waitsOk impl_VecUnit.T5.2 impl_VecUnit.B5 = true := by kernel_rfl
set_option maxHeartbeats 8000000 in
set_option maxRecDepth 100000 in
theorem impl_VecUnit.calls (k : Nat) (a0_0 : Int) (a0_1 : Int) (r1 : Int) (r2 : Int) (w : World) (h : impl_VecUnit.f k a0_0 a0_1 = some (r1, r2)) :
    Calls Try.prog 95 #[.agg #[.int .i64 a0_0, .int .i64 a0_1]] w fun e w' => e = .returned (.agg #[.int .i64 r1, .int .i64 r2]) ∧ Below w.heap.size w w' := by
  have hu24 := Try.underlying24
  have HB := az (Below.refl w.heap.size w)
  have H : ((impl_Vec_clamped.f a0_0 a0_1 1000000000).bind fun bt1004 => ((impl_VecLen.f k bt1004.1 bt1004.2).bind fun t1006 => (if t1006 = 0 then (some (0, 256)) else (some (wrap64 (Int.tdiv (wrap64 (bt1004.1 * 256)) t1006), wrap64 (Int.tdiv (wrap64 (bt1004.2 * 256)) t1006)))))) = some (r1, r2) := h
  clear h
  replace H := qH H
  obtain ⟨⟨t1004, t1005⟩, A2, H⟩ := H
  try dsimp only at H
  replace H := qH H
  obtain ⟨t1006, A3, H⟩ := H
  try dsimp only at H
  by_cases c4 : t1006 = 0
  · rw [if_pos c4] at H
    have c4b0 : (t1006 == 0) = true := beq_iff_eq.mpr c4
    have c4b1 : (t1006 != 0) = false := bne_eq_false_iff_eq.mpr c4
    clear c4
    simp only [Option.some.injEq, Prod.mk.injEq] at H
    obtain ⟨rfl, rfl⟩ := H
    go_enter Try.func95, Try.ntmps95
    go_wp2_with (first | ((with_reducible refine gate_dst (N := 1) rfl ?_); refine bx (N := 1) (cs := #[.int .i64 a0_0, .int .i64 a0_1]) (t := 24) ?_; intro gb1002 hg w5 hbox hb; have BK1002 := az hbox; have GW1002 := az ((gE hg (qL HB) : w.heap.size ≤ gb1002)); have GE1002 := GW1002; replace HB := bS HB hb; clear hb hbox hg) | ((with_reducible refine gate_dst (N := 2) rfl ?_); refine bx (N := 2) (cs := #[.int .i64 0, .int .i64 0]) (t := 24) ?_; intro gb1003 hg w6 hbox hb; have BK1003 := az hbox; have GW1003 := az ((gE hg (qL HB) : w.heap.size ≤ gb1003)); have GE1003 := GW1003; obtain ⟨NB1002_1003, NB1003_1002⟩ := nPB BK1002 hg; replace BK1002 := kBB BK1002 hb; replace HB := bS HB hb; clear hb hbox hg; have hnb7 := NB1002_1003.out; have hnc7 := NB1003_1002.out; obtain ⟨hcz8_0, hcz8_1⟩ := cz2 BK1002.out; have hfz8_0 := blk_frozen BK1002.out 0; have hfz8_1 := blk_frozen BK1002.out 1) | ((with_reducible refine gate_callee (f := 71) rfl ?_); refine gl (some 5) Try.func71 #[.agg #[.int .i64 a0_0, .int .i64 a0_1], .int .i64 1000000000] ?_; (with_reducible refine (impl_Vec_clamped.calls a0_0 a0_1 1000000000 t1004 t1005 _ A2.out).mono ?_); rintro e w9 ⟨rfl, hb⟩; refine ⟨_, rfl, ?_⟩; replace BK1002 := kBB BK1002 hb; replace BK1003 := kBB BK1003 hb; replace HB := bS HB hb; clear hb; obtain ⟨hcz10_0, hcz10_1⟩ := cz2 BK1002.out; have hfz10_0 := blk_frozen BK1002.out 0; have hfz10_1 := blk_frozen BK1002.out 1) | ((with_reducible refine gate_callee (f := 96) rfl ?_); refine gl (some 7) Try.func96 #[.agg #[.int .i64 t1004, .int .i64 t1005]] ?_; (with_reducible refine (impl_VecLen.calls k t1004 t1005 t1006 _ A3.out).mono ?_); rintro e w11 ⟨rfl, hb⟩; refine ⟨_, rfl, ?_⟩; replace BK1002 := kBP (o' := .cells #[.int .i64 t1004, .int .i64 t1005] 24 (0, 0)) BK1002 hb; replace BK1003 := kBF BK1003 hb; replace HB := bS HB hb; clear hb; obtain ⟨hcz12_0, hcz12_1⟩ := cz2 BK1003.out; have hfz12_0 := blk_frozen BK1003.out 0; have hfz12_1 := blk_frozen BK1003.out 1))
    refine bodyPost_ret (results_cell_row rfl _ _ gb1003 24 #[.int .i64 0, .int .i64 256] (0, 0) _ rfl (qP BK1003) Try.underlying24 rfl (by kernel_rfl)) rfl ?_
    exact ⟨qE, qL HB⟩
  rw [if_neg c4] at H
  have c4b0 : (t1006 == 0) = false := beq_eq_false_iff_ne.mpr c4
  have c4b1 : (t1006 != 0) = true := bne_iff_ne.mpr c4
  simp only [Option.some.injEq, Prod.mk.injEq] at H
  obtain ⟨rfl, rfl⟩ := H
  go_enter Try.func95, Try.ntmps95
  try go_wp2_with (first | ((with_reducible refine gate_dst (N := 1) rfl ?_); refine bx (N := 1) (cs := #[.int .i64 a0_0, .int .i64 a0_1]) (t := 24) ?_; intro gb1002 hg w13 hbox hb; have BK1002 := az hbox; have GW1002 := az ((gE hg (qL HB) : w.heap.size ≤ gb1002)); have GE1002 := GW1002; replace HB := bS HB hb; clear hb hbox hg) | ((with_reducible refine gate_dst (N := 2) rfl ?_); refine bx (N := 2) (cs := #[.int .i64 0, .int .i64 0]) (t := 24) ?_; intro gb1003 hg w14 hbox hb; have BK1003 := az hbox; have GW1003 := az ((gE hg (qL HB) : w.heap.size ≤ gb1003)); have GE1003 := GW1003; obtain ⟨NB1002_1003, NB1003_1002⟩ := nPB BK1002 hg; replace BK1002 := kBB BK1002 hb; replace HB := bS HB hb; clear hb hbox hg; have hnb15 := NB1002_1003.out; have hnc15 := NB1003_1002.out; obtain ⟨hcz16_0, hcz16_1⟩ := cz2 BK1002.out; have hfz16_0 := blk_frozen BK1002.out 0; have hfz16_1 := blk_frozen BK1002.out 1) | ((with_reducible refine gate_callee (f := 71) rfl ?_); refine gl (some 5) Try.func71 #[.agg #[.int .i64 a0_0, .int .i64 a0_1], .int .i64 1000000000] ?_; (with_reducible refine (impl_Vec_clamped.calls a0_0 a0_1 1000000000 t1004 t1005 _ A2.out).mono ?_); rintro e w17 ⟨rfl, hb⟩; refine ⟨_, rfl, ?_⟩; replace BK1002 := kBB BK1002 hb; replace BK1003 := kBB BK1003 hb; replace HB := bS HB hb; clear hb; obtain ⟨hcz18_0, hcz18_1⟩ := cz2 BK1002.out; have hfz18_0 := blk_frozen BK1002.out 0; have hfz18_1 := blk_frozen BK1002.out 1) | ((with_reducible refine gate_callee (f := 96) rfl ?_); refine gl (some 7) Try.func96 #[.agg #[.int .i64 t1004, .int .i64 t1005]] ?_; (with_reducible refine (impl_VecLen.calls k t1004 t1005 t1006 _ A3.out).mono ?_); rintro e w19 ⟨rfl, hb⟩; refine ⟨_, rfl, ?_⟩; replace BK1002 := kBP (o' := .cells #[.int .i64 t1004, .int .i64 t1005] 24 (0, 0)) BK1002 hb; replace BK1003 := kBF BK1003 hb; replace HB := bS HB hb; clear hb))
  replace BK1002 := az (blk_drew BK1002.out)
  replace BK1003 := az (blk_drew BK1003.out)
  replace HB := az (below_drew1 HB.out)
  refine start_ (n := 12) (S := fun w' => w'.cell? ⟨gb1002, 0, none⟩ = some (.int .i64 t1004) ∧ w'.cell? ⟨gb1002, 1, none⟩ = some (.int .i64 t1005)) (ds := []) #[false, false, false, false, false, false, false, false, false, false, false, false] (by kernel_rfl) rfl rfl ⟨bc BK1002 0, bc BK1002 1⟩ (fun hHeld => ?_); refine with_tabW impl_VecUnit.tab5 impl_VecUnit.bits5 (fun HT_ HW_ => ?_)
  generalize w19.drew = w20 at BK1002 BK1003 HB hHeld ⊢
  refine pu 0 (some 11) (fl 12 1) HT_ ?_
  refine pu 3 (some 14) (fl 12 9) HT_ ?_
  refine pu 5 (some 16) (fl 12 41) HT_ ?_
  refine pu 8 (some 19) (fl 12 297) HT_ ?_
  refine tk2 1 (some 12) (fl 12 299) HT_ HW_ hHeld ?_
  refine pu 2 (some 13) (fl 12 303) HT_ ?_
  refine pu 4 (some 15) (fl 12 319) HT_ ?_
  refine tk2 6 (some 17) (fl 12 383) HT_ HW_ hHeld ?_
  refine pu 7 (some 18) (fl 12 511) HT_ ?_
  refine pu 9 (some 20) (fl 12 1023) HT_ ?_
  refine pu 10 (some 21) (fl 12 2047) HT_ ?_
  refine on 11 (none) (fl 12 4095) HT_ (fun K hK => ?_)
  have hs21 : w20.cell? ⟨gb1003, 0, none⟩ = some (.int .i64 0) := bc BK1003 0
  have hfs21 := blk_frozen BK1003.out 0
  have hns21_0 := NB1002_1003.out
  have hms21_0 := NB1003_1002.out
  have hs22 : w20.cell? ⟨gb1003, 1, none⟩ = some (.int .i64 0) := bc BK1003 1
  have hfs22 := blk_frozen BK1003.out 1
  have hns22_0 := NB1002_1003.out
  have hms22_0 := NB1003_1002.out
  refine skip_ (w1 := ?_) ?hw ?hn ?_ ?_; (case hw => unfold Region.wanted; rfl); (case hn => rfl)
  rotate_left
  · go_simp
    rfl
  refine hK.out _ _ ⟨(cf NB1002_1003 ((cf NB1002_1003 (hHeld.1)))), (cf NB1002_1003 ((cf NB1002_1003 (hHeld.2))))⟩ (fun hHeld => ?_)
  clear hK K
  refine done_ (done_of HT_.out (by kernel_rfl)) ?_
  try go_wp2
  refine bodyPost_ret (results_cell_row rfl _ _ gb1003 24 #[.int .i64 (wrap64 (Int.tdiv (wrap64 (t1004 * 256)) t1006)), .int .i64 (wrap64 (Int.tdiv (wrap64 (t1005 * 256)) t1006))] (0, 0) _ rfl (qP BK1003) Try.underlying24 rfl (by kernel_rfl)) rfl ?_
  exact ⟨qE, qL HB⟩

/-! ### impl_rounds: function 74 -/
def impl_rounds.f (k : Nat) (a0_0 : Int) (a0_1 : Int) (a1 : Int) (a2_0 : Int) (a2_1 : Int) (a3 : Int) : Option (Int × Int × Int × Bool) := (impl_Vec_minus.f a2_0 a2_1 a0_0 a0_1).bind fun bt1010 => ((impl_Vec_square.f bt1010.1 bt1010.2).bind fun t1013 => (if t1013 > (wrap64 ((wrap64 (a1 + a3)) * (wrap64 (a1 + a3)))) then (some (0, 0, 0, false)) else ((impl_VecUnit.f k bt1010.1 bt1010.2).bind fun bt1014 => ((impl_VecLen.f k bt1010.1 bt1010.2).bind fun t1016 => (some (bt1014.1, bt1014.2, wrap64 ((wrap64 (a1 + a3)) - t1016), true))))))
theorem impl_rounds.mono : ∀ a0 a1 a2 a3 a4 a5 k, LeO (impl_rounds.f k a0 a1 a2 a3 a4 a5) (impl_rounds.f (k + 1) a0 a1 a2 a3 a4 a5) := by
  intro a0 a1 a2 a3 a4 a5 k
  unfold impl_rounds.f
  repeat' first
      | (with_reducible exact impl_VecLen.mono _ _ _)
      | (with_reducible exact impl_VecUnit.mono _ _ _)
      | (with_reducible exact LeO.refl _)
      | (with_reducible exact LeO.none _)
      | (with_reducible refine LeO.ite ?_ ?_)
      | (with_reducible refine LeO.bind ?_ (fun _ => ?_))
def impl_rounds.T4 : Bool × List (List Nat × List Nat) := (true, [([], []), ([0], [0]), ([], []), ([], []), ([3, 1], [3]), ([2, 4], [2, 4]), ([1, 5], [1, 5]), ([6, 4, 0, 1, 2, 3, 4, 5, 6], [6]), ([7, 0, 1, 2, 3, 4, 5, 6, 7], [])])
def impl_rounds.B4 : List Nat := [0, 1, 0, 0, 11, 31, 63, 127, 255]
theorem impl_rounds.tab4 : rtab .any (opsOf Try.f74 4) = impl_rounds.T4 := by kernel_rfl
theorem impl_rounds.bits4 : waitsOk impl_rounds.T4.2 impl_rounds.B4 = true := by kernel_rfl
set_option maxHeartbeats 8000000 in
set_option maxRecDepth 100000 in
theorem impl_rounds.calls (k : Nat) (a0_0 : Int) (a0_1 : Int) (a1 : Int) (a2_0 : Int) (a2_1 : Int) (a3 : Int) (r1 : Int) (r2 : Int) (r3 : Int) (r4 : Bool) (w : World) (h : impl_rounds.f k a0_0 a0_1 a1 a2_0 a2_1 a3 = some (r1, r2, r3, r4)) :
    Calls Try.prog 74 #[.agg #[.int .i64 a0_0, .int .i64 a0_1], .int .i64 a1, .agg #[.int .i64 a2_0, .int .i64 a2_1], .int .i64 a3] w fun e w' => e = .returned (.tuple #[.agg #[.int .i64 r1, .int .i64 r2, .int .i64 r3], .bool r4]) ∧ Below w.heap.size w w' := by
  have hu24 := Try.underlying24
  have hu56 := Try.underlying56
  have HB := az (Below.refl w.heap.size w)
  have H : ((impl_Vec_minus.f a2_0 a2_1 a0_0 a0_1).bind fun bt1010 => ((impl_Vec_square.f bt1010.1 bt1010.2).bind fun t1013 => (if t1013 > (wrap64 ((wrap64 (a1 + a3)) * (wrap64 (a1 + a3)))) then (some (0, 0, 0, false)) else ((impl_VecUnit.f k bt1010.1 bt1010.2).bind fun bt1014 => ((impl_VecLen.f k bt1010.1 bt1010.2).bind fun t1016 => (some (bt1014.1, bt1014.2, wrap64 ((wrap64 (a1 + a3)) - t1016), true))))))) = some (r1, r2, r3, r4) := h
  clear h
  replace H := qH H
  obtain ⟨⟨t1010, t1011⟩, A5, H⟩ := H
  try dsimp only at H
  replace H := qH H
  obtain ⟨t1013, A6, H⟩ := H
  try dsimp only at H
  by_cases c7 : t1013 > (wrap64 ((wrap64 (a1 + a3)) * (wrap64 (a1 + a3))))
  · rw [if_pos c7] at H
    have c7b0 : decide ((wrap64 ((wrap64 (a1 + a3)) * (wrap64 (a1 + a3)))) < t1013) = true := decide_eq_true c7
    clear c7
    simp only [Option.some.injEq, Prod.mk.injEq] at H
    obtain ⟨rfl, rfl, rfl, rfl⟩ := H
    go_enter Try.func74, Try.ntmps74
    go_wp2_with (first | ((with_reducible refine gate_dst (N := 4) rfl ?_); refine bx (N := 4) (cs := #[.int .i64 a0_0, .int .i64 a0_1]) (t := 24) ?_; intro gb1007 hg w8 hbox hb; have BK1007 := az hbox; have GW1007 := az ((gE hg (qL HB) : w.heap.size ≤ gb1007)); have GE1007 := GW1007; replace HB := bS HB hb; clear hb hbox hg) | ((with_reducible refine gate_dst (N := 6) rfl ?_); refine bx (N := 6) (cs := #[.int .i64 a2_0, .int .i64 a2_1]) (t := 24) ?_; intro gb1008 hg w9 hbox hb; have BK1008 := az hbox; have GW1008 := az ((gE hg (qL HB) : w.heap.size ≤ gb1008)); have GE1008 := GW1008; obtain ⟨NB1007_1008, NB1008_1007⟩ := nPB BK1007 hg; replace BK1007 := kBB BK1007 hb; replace HB := bS HB hb; clear hb hbox hg) | ((with_reducible refine gate_dst (N := 8) rfl ?_); refine bx (N := 8) (cs := #[.int .i64 0, .int .i64 0, .int .i64 0]) (t := 56) ?_; intro gb1009 hg w10 hbox hb; have BK1009 := az hbox; have GW1009 := az ((gE hg (qL HB) : w.heap.size ≤ gb1009)); have GE1009 := GW1009; obtain ⟨NB1007_1009, NB1009_1007⟩ := nPB BK1007 hg; obtain ⟨NB1008_1009, NB1009_1008⟩ := nPB BK1008 hg; replace BK1007 := kBB BK1007 hb; replace BK1008 := kBB BK1008 hb; replace HB := bS HB hb; clear hb hbox hg; have hnb11 := NB1008_1007.out; have hnc11 := NB1007_1008.out; have hnb12 := NB1008_1009.out; have hnc12 := NB1009_1008.out; obtain ⟨hcz13_0, hcz13_1⟩ := cz2 BK1008.out; have hfz13_0 := blk_frozen BK1008.out 0; have hfz13_1 := blk_frozen BK1008.out 1; have hnb14 := NB1007_1009.out; have hnc14 := NB1009_1007.out; obtain ⟨hcz15_0, hcz15_1⟩ := cz2 BK1007.out; have hfz15_0 := blk_frozen BK1007.out 0; have hfz15_1 := blk_frozen BK1007.out 1) | ((with_reducible refine gate_callee (f := 83) rfl ?_); refine gl (some 14) Try.func83 #[.agg #[.int .i64 a2_0, .int .i64 a2_1], .agg #[.int .i64 a0_0, .int .i64 a0_1]] ?_; (with_reducible refine (impl_Vec_minus.calls a2_0 a2_1 a0_0 a0_1 t1010 t1011 _ A5.out).mono ?_); rintro e w16 ⟨rfl, hb⟩; refine ⟨_, rfl, ?_⟩; replace BK1007 := kBB BK1007 hb; replace BK1008 := kBB BK1008 hb; replace BK1009 := kBB BK1009 hb; replace HB := bS HB hb; clear hb) | ((with_reducible refine gate_dst (N := 10) rfl ?_); refine bx (N := 10) (cs := #[.int .i64 0, .int .i64 0]) (t := 24) ?_; intro gb1012 hg w17 hbox hb; have BK1012 := az hbox; have GW1012 := az ((gE hg (qL HB) : w.heap.size ≤ gb1012)); have GE1012 := GW1012; obtain ⟨NB1007_1012, NB1012_1007⟩ := nPB BK1007 hg; obtain ⟨NB1008_1012, NB1012_1008⟩ := nPB BK1008 hg; obtain ⟨NB1009_1012, NB1012_1009⟩ := nPB BK1009 hg; replace BK1007 := kBB BK1007 hb; replace BK1008 := kBB BK1008 hb; replace BK1009 := kBB BK1009 hb; replace HB := bS HB hb; clear hb hbox hg; have hnb18 := NB1012_1007.out; have hnc18 := NB1007_1012.out; have hnb19 := NB1012_1008.out; have hnc19 := NB1008_1012.out; have hnb20 := NB1012_1009.out; have hnc20 := NB1009_1012.out; obtain ⟨hcz21_0, hcz21_1⟩ := cz2 BK1012.out; have hfz21_0 := blk_frozen BK1012.out 0; have hfz21_1 := blk_frozen BK1012.out 1) | ((with_reducible refine gate_callee (f := 84) rfl ?_); refine gl (some 19) Try.func84 #[.agg #[.int .i64 t1010, .int .i64 t1011]] ?_; (with_reducible refine (impl_Vec_square.calls t1010 t1011 t1013 _ A6.out).mono ?_); rintro e w22 ⟨rfl, hb⟩; refine ⟨_, rfl, ?_⟩; replace BK1007 := kBF BK1007 hb; replace BK1008 := kBF BK1008 hb; replace BK1009 := kBF BK1009 hb; replace BK1012 := kBP (o' := .cells #[.int .i64 t1010, .int .i64 t1011] 24 (0, 0)) BK1012 hb; replace HB := bS HB hb; clear hb; obtain ⟨hcz23_0, hcz23_1, hcz23_2⟩ := cz3 BK1009.out; obtain ⟨hfz23_0, hfz23_1, hfz23_2⟩ := fz3 BK1009.out))
    refine bodyPost_ret (results_ct rfl _ _ gb1009 56 #[.int .i64 0, .int .i64 0, .int .i64 0] (0, 0) _ rfl (qP BK1009) Try.underlying56 rfl (by kernel_rfl)) rfl ?_
    exact ⟨qE, qL HB⟩
  rw [if_neg c7] at H
  have c7b0 : decide ((wrap64 ((wrap64 (a1 + a3)) * (wrap64 (a1 + a3)))) < t1013) = false := decide_eq_false c7
  clear c7
  replace H := qH H
  obtain ⟨⟨t1014, t1015⟩, A24, H⟩ := H
  try dsimp only at H
  replace H := qH H
  obtain ⟨t1016, A25, H⟩ := H
  try dsimp only at H
  simp only [Option.some.injEq, Prod.mk.injEq] at H
  obtain ⟨rfl, rfl, rfl, rfl⟩ := H
  go_enter Try.func74, Try.ntmps74
  try go_wp2_with (first | ((with_reducible refine gate_dst (N := 4) rfl ?_); refine bx (N := 4) (cs := #[.int .i64 a0_0, .int .i64 a0_1]) (t := 24) ?_; intro gb1007 hg w26 hbox hb; have BK1007 := az hbox; have GW1007 := az ((gE hg (qL HB) : w.heap.size ≤ gb1007)); have GE1007 := GW1007; replace HB := bS HB hb; clear hb hbox hg) | ((with_reducible refine gate_dst (N := 6) rfl ?_); refine bx (N := 6) (cs := #[.int .i64 a2_0, .int .i64 a2_1]) (t := 24) ?_; intro gb1008 hg w27 hbox hb; have BK1008 := az hbox; have GW1008 := az ((gE hg (qL HB) : w.heap.size ≤ gb1008)); have GE1008 := GW1008; obtain ⟨NB1007_1008, NB1008_1007⟩ := nPB BK1007 hg; replace BK1007 := kBB BK1007 hb; replace HB := bS HB hb; clear hb hbox hg) | ((with_reducible refine gate_dst (N := 8) rfl ?_); refine bx (N := 8) (cs := #[.int .i64 0, .int .i64 0, .int .i64 0]) (t := 56) ?_; intro gb1009 hg w28 hbox hb; have BK1009 := az hbox; have GW1009 := az ((gE hg (qL HB) : w.heap.size ≤ gb1009)); have GE1009 := GW1009; obtain ⟨NB1007_1009, NB1009_1007⟩ := nPB BK1007 hg; obtain ⟨NB1008_1009, NB1009_1008⟩ := nPB BK1008 hg; replace BK1007 := kBB BK1007 hb; replace BK1008 := kBB BK1008 hb; replace HB := bS HB hb; clear hb hbox hg; have hnb29 := NB1008_1007.out; have hnc29 := NB1007_1008.out; have hnb30 := NB1008_1009.out; have hnc30 := NB1009_1008.out; obtain ⟨hcz31_0, hcz31_1⟩ := cz2 BK1008.out; have hfz31_0 := blk_frozen BK1008.out 0; have hfz31_1 := blk_frozen BK1008.out 1; have hnb32 := NB1007_1009.out; have hnc32 := NB1009_1007.out; obtain ⟨hcz33_0, hcz33_1⟩ := cz2 BK1007.out; have hfz33_0 := blk_frozen BK1007.out 0; have hfz33_1 := blk_frozen BK1007.out 1) | ((with_reducible refine gate_callee (f := 83) rfl ?_); refine gl (some 14) Try.func83 #[.agg #[.int .i64 a2_0, .int .i64 a2_1], .agg #[.int .i64 a0_0, .int .i64 a0_1]] ?_; (with_reducible refine (impl_Vec_minus.calls a2_0 a2_1 a0_0 a0_1 t1010 t1011 _ A5.out).mono ?_); rintro e w34 ⟨rfl, hb⟩; refine ⟨_, rfl, ?_⟩; replace BK1007 := kBB BK1007 hb; replace BK1008 := kBB BK1008 hb; replace BK1009 := kBB BK1009 hb; replace HB := bS HB hb; clear hb) | ((with_reducible refine gate_dst (N := 10) rfl ?_); refine bx (N := 10) (cs := #[.int .i64 0, .int .i64 0]) (t := 24) ?_; intro gb1012 hg w35 hbox hb; have BK1012 := az hbox; have GW1012 := az ((gE hg (qL HB) : w.heap.size ≤ gb1012)); have GE1012 := GW1012; obtain ⟨NB1007_1012, NB1012_1007⟩ := nPB BK1007 hg; obtain ⟨NB1008_1012, NB1012_1008⟩ := nPB BK1008 hg; obtain ⟨NB1009_1012, NB1012_1009⟩ := nPB BK1009 hg; replace BK1007 := kBB BK1007 hb; replace BK1008 := kBB BK1008 hb; replace BK1009 := kBB BK1009 hb; replace HB := bS HB hb; clear hb hbox hg; have hnb36 := NB1012_1007.out; have hnc36 := NB1007_1012.out; have hnb37 := NB1012_1008.out; have hnc37 := NB1008_1012.out; have hnb38 := NB1012_1009.out; have hnc38 := NB1009_1012.out; obtain ⟨hcz39_0, hcz39_1⟩ := cz2 BK1012.out; have hfz39_0 := blk_frozen BK1012.out 0; have hfz39_1 := blk_frozen BK1012.out 1) | ((with_reducible refine gate_callee (f := 84) rfl ?_); refine gl (some 19) Try.func84 #[.agg #[.int .i64 t1010, .int .i64 t1011]] ?_; (with_reducible refine (impl_Vec_square.calls t1010 t1011 t1013 _ A6.out).mono ?_); rintro e w40 ⟨rfl, hb⟩; refine ⟨_, rfl, ?_⟩; replace BK1007 := kBF BK1007 hb; replace BK1008 := kBF BK1008 hb; replace BK1009 := kBF BK1009 hb; replace BK1012 := kBP (o' := .cells #[.int .i64 t1010, .int .i64 t1011] 24 (0, 0)) BK1012 hb; replace HB := bS HB hb; clear hb))
  replace BK1007 := az (blk_drew BK1007.out)
  replace BK1008 := az (blk_drew BK1008.out)
  replace BK1009 := az (blk_drew BK1009.out)
  replace BK1012 := az (blk_drew BK1012.out)
  replace HB := az (below_drew1 HB.out)
  refine start_ (n := 9) (S := fun w' => w'.cell? ⟨gb1012, 0, none⟩ = some (.int .i64 t1010) ∧ w'.cell? ⟨gb1012, 1, none⟩ = some (.int .i64 t1011)) (ds := []) #[false, false, false, false, false, false, false, false, false] (by kernel_rfl) rfl rfl ⟨bc BK1012 0, bc BK1012 1⟩ (fun hHeld => ?_); refine with_tabW impl_rounds.tab4 impl_rounds.bits4 (fun HT_ HW_ => ?_)
  generalize w40.drew = w41 at BK1007 BK1008 BK1009 BK1012 HB hHeld ⊢
  refine pu 2 (some 27) (fl 9 4) HT_ ?_
  refine tk2 0 (some 25) (fl 9 5) HT_ HW_ hHeld ?_
  refine tk2 3 (some 28) (fl 9 13) HT_ HW_ hHeld ?_
  refine on 1 (some 26) (fl 9 15) HT_ (fun K hK => ?_)
  refine go1 Try.func95 #[.agg #[.int .i64 t1010, .int .i64 t1011]] ?_
  with_reducible refine (impl_VecUnit.calls k t1010 t1011 t1014 t1015 _ A24.out).mono ?_
  rintro e w42 ⟨rfl, hb⟩
  refine ⟨_, rfl, ?_⟩
  replace BK1007 := kBB BK1007 hb
  replace BK1008 := kBB BK1008 hb
  replace BK1009 := kBB BK1009 hb
  replace BK1012 := kBB BK1012 hb
  replace HB := bS HB hb
  clear hb
  refine hK.out _ _ ⟨bc BK1012 0, bc BK1012 1⟩ (fun hHeld => ?_)
  clear hK K
  refine nm (some 26) ?_
  refine on 4 (some 29) (fl 9 31) HT_ (fun K hK => ?_)
  refine go1 Try.func96 #[.agg #[.int .i64 t1010, .int .i64 t1011]] ?_
  with_reducible refine (impl_VecLen.calls k t1010 t1011 t1016 _ A25.out).mono ?_
  rintro e w43 ⟨rfl, hb⟩
  refine ⟨_, rfl, ?_⟩
  replace BK1007 := kBB BK1007 hb
  replace BK1008 := kBB BK1008 hb
  replace BK1009 := kBB BK1009 hb
  replace BK1012 := kBB BK1012 hb
  replace HB := bS HB hb
  clear hb
  refine hK.out _ _ ⟨bc BK1012 0, bc BK1012 1⟩ (fun hHeld => ?_)
  clear hK K
  refine nm (some 29) ?_
  refine pu 5 (some 30) (fl 9 63) HT_ ?_
  refine pu 6 (some 31) (fl 9 127) HT_ ?_
  refine on 7 (none) (fl 9 255) HT_ (fun K hK => ?_)
  have hs44 : w43.cell? ⟨gb1009, 0, none⟩ = some (.int .i64 0) := bc BK1009 0
  have hfs44 := blk_frozen BK1009.out 0
  have hns44_0 := NB1007_1009.out
  have hns44_1 := NB1008_1009.out
  have hns44_3 := NB1012_1009.out
  have hms44_0 := NB1009_1007.out
  have hms44_1 := NB1009_1008.out
  have hms44_3 := NB1009_1012.out
  have hs45 : w43.cell? ⟨gb1009, 1, none⟩ = some (.int .i64 0) := bc BK1009 1
  have hfs45 := blk_frozen BK1009.out 1
  have hns45_0 := NB1007_1009.out
  have hns45_1 := NB1008_1009.out
  have hns45_3 := NB1012_1009.out
  have hms45_0 := NB1009_1007.out
  have hms45_1 := NB1009_1008.out
  have hms45_3 := NB1009_1012.out
  have hs46 : w43.cell? ⟨gb1009, 2, none⟩ = some (.int .i64 0) := bc BK1009 2
  have hfs46 := blk_frozen BK1009.out 2
  have hns46_0 := NB1007_1009.out
  have hns46_1 := NB1008_1009.out
  have hns46_3 := NB1012_1009.out
  have hms46_0 := NB1009_1007.out
  have hms46_1 := NB1009_1008.out
  have hms46_3 := NB1009_1012.out
  refine skip_ (w1 := ?_) ?hw ?hn ?_ ?_; (case hw => unfold Region.wanted; rfl); (case hn => rfl)
  rotate_left
  · go_simp
    rfl
  refine hK.out _ _ ⟨(cf NB1012_1009 ((cf NB1012_1009 ((cf NB1012_1009 (hHeld.1)))))), (cf NB1012_1009 ((cf NB1012_1009 ((cf NB1012_1009 (hHeld.2))))))⟩ (fun hHeld => ?_)
  clear hK K
  refine pu 8 (some 9) (fl 9 511) HT_ ?_
  refine done_ (done_of HT_.out (by kernel_rfl)) ?_
  try go_wp2
  refine bodyPost_ret (results_ct rfl _ _ gb1009 56 #[.int .i64 t1014, .int .i64 t1015, .int .i64 (wrap64 ((wrap64 (a1 + a3)) - t1016))] (0, 0) _ rfl (qP BK1009) Try.underlying56 rfl (by kernel_rfl)) rfl ?_
  exact ⟨qE, qL HB⟩

/-! ### impl_Box_meets: function 81 -/
def impl_Box_meets.f (a0_0 : Int) (a0_1 : Int) (a0_2 : Int) (a0_3 : Int) (a1_0 : Int) (a1_1 : Int) (a1_2 : Int) (a1_3 : Int) : Option (Bool) := if a0_0 ≤ a1_2 then (if a1_0 ≤ a0_2 then (if a0_1 ≤ a1_3 then (some (decide (a1_1 ≤ a0_3))) else (some false)) else (some false)) else (some false)
set_option maxHeartbeats 8000000 in
set_option maxRecDepth 100000 in
theorem impl_Box_meets.calls (a0_0 : Int) (a0_1 : Int) (a0_2 : Int) (a0_3 : Int) (a1_0 : Int) (a1_1 : Int) (a1_2 : Int) (a1_3 : Int) (r : Bool) (w : World) (h : impl_Box_meets.f a0_0 a0_1 a0_2 a0_3 a1_0 a1_1 a1_2 a1_3 = some r) :
    Calls Try.prog 81 #[.agg #[.int .i64 a0_0, .int .i64 a0_1, .int .i64 a0_2, .int .i64 a0_3], .agg #[.int .i64 a1_0, .int .i64 a1_1, .int .i64 a1_2, .int .i64 a1_3]] w fun e w' => e = .returned (.bool r) ∧ Below w.heap.size w w' := by
  have hu26 := Try.underlying26
  have HB := az (Below.refl w.heap.size w)
  have H : (if a0_0 ≤ a1_2 then (if a1_0 ≤ a0_2 then (if a0_1 ≤ a1_3 then (some (decide (a1_1 ≤ a0_3))) else (some false)) else (some false)) else (some false)) = some r := h
  clear h
  by_cases c3 : a0_0 ≤ a1_2
  · rw [if_pos c3] at H
    have c3b0 : decide (a0_0 ≤ a1_2) = true := decide_eq_true c3
    clear c3
    by_cases c4 : a1_0 ≤ a0_2
    · rw [if_pos c4] at H
      have c4b0 : decide (a1_0 ≤ a0_2) = true := decide_eq_true c4
      clear c4
      by_cases c5 : a0_1 ≤ a1_3
      · rw [if_pos c5] at H
        have c5b0 : decide (a0_1 ≤ a1_3) = true := decide_eq_true c5
        clear c5
        obtain rfl := Option.some.inj H
        go_enter Try.func81, Try.ntmps81
        go_wp2_with (first | ((with_reducible refine gate_dst (N := 2) rfl ?_); refine bx (N := 2) (cs := #[.int .i64 a0_0, .int .i64 a0_1, .int .i64 a0_2, .int .i64 a0_3]) (t := 26) ?_; intro gb1017 hg w6 hbox hb; have BK1017 := az hbox; have GW1017 := az ((gE hg (qL HB) : w.heap.size ≤ gb1017)); have GE1017 := GW1017; replace HB := bS HB hb; clear hb hbox hg) | ((with_reducible refine gate_dst (N := 3) rfl ?_); refine bx (N := 3) (cs := #[.int .i64 a1_0, .int .i64 a1_1, .int .i64 a1_2, .int .i64 a1_3]) (t := 26) ?_; intro gb1018 hg w7 hbox hb; have BK1018 := az hbox; have GW1018 := az ((gE hg (qL HB) : w.heap.size ≤ gb1018)); have GE1018 := GW1018; obtain ⟨NB1017_1018, NB1018_1017⟩ := nPB BK1017 hg; replace BK1017 := kBB BK1017 hb; replace HB := bS HB hb; clear hb hbox hg; have hnb8 := NB1017_1018.out; have hnc8 := NB1018_1017.out; obtain ⟨hcz9_0, hcz9_1, hcz9_2, hcz9_3⟩ := cz4 BK1017.out; obtain ⟨hfz9_0, hfz9_1, hfz9_2, hfz9_3⟩ := fz4 BK1017.out; obtain ⟨hcz10_0, hcz10_1, hcz10_2, hcz10_3⟩ := cz4 BK1018.out; obtain ⟨hfz10_0, hfz10_1, hfz10_2, hfz10_3⟩ := fz4 BK1018.out))
        go_ret
        exact ⟨qE, qL HB⟩
      rw [if_neg c5] at H
      have c5b0 : decide (a0_1 ≤ a1_3) = false := decide_eq_false c5
      clear c5
      obtain rfl := Option.some.inj H
      go_enter Try.func81, Try.ntmps81
      go_wp2_with (first | ((with_reducible refine gate_dst (N := 2) rfl ?_); refine bx (N := 2) (cs := #[.int .i64 a0_0, .int .i64 a0_1, .int .i64 a0_2, .int .i64 a0_3]) (t := 26) ?_; intro gb1017 hg w11 hbox hb; have BK1017 := az hbox; have GW1017 := az ((gE hg (qL HB) : w.heap.size ≤ gb1017)); have GE1017 := GW1017; replace HB := bS HB hb; clear hb hbox hg) | ((with_reducible refine gate_dst (N := 3) rfl ?_); refine bx (N := 3) (cs := #[.int .i64 a1_0, .int .i64 a1_1, .int .i64 a1_2, .int .i64 a1_3]) (t := 26) ?_; intro gb1018 hg w12 hbox hb; have BK1018 := az hbox; have GW1018 := az ((gE hg (qL HB) : w.heap.size ≤ gb1018)); have GE1018 := GW1018; obtain ⟨NB1017_1018, NB1018_1017⟩ := nPB BK1017 hg; replace BK1017 := kBB BK1017 hb; replace HB := bS HB hb; clear hb hbox hg; have hnb13 := NB1017_1018.out; have hnc13 := NB1018_1017.out; obtain ⟨hcz14_0, hcz14_1, hcz14_2, hcz14_3⟩ := cz4 BK1017.out; obtain ⟨hfz14_0, hfz14_1, hfz14_2, hfz14_3⟩ := fz4 BK1017.out; obtain ⟨hcz15_0, hcz15_1, hcz15_2, hcz15_3⟩ := cz4 BK1018.out; obtain ⟨hfz15_0, hfz15_1, hfz15_2, hfz15_3⟩ := fz4 BK1018.out))
      go_ret
      exact ⟨qE, qL HB⟩
    rw [if_neg c4] at H
    have c4b0 : decide (a1_0 ≤ a0_2) = false := decide_eq_false c4
    clear c4
    obtain rfl := Option.some.inj H
    go_enter Try.func81, Try.ntmps81
    go_wp2_with (first | ((with_reducible refine gate_dst (N := 2) rfl ?_); refine bx (N := 2) (cs := #[.int .i64 a0_0, .int .i64 a0_1, .int .i64 a0_2, .int .i64 a0_3]) (t := 26) ?_; intro gb1017 hg w16 hbox hb; have BK1017 := az hbox; have GW1017 := az ((gE hg (qL HB) : w.heap.size ≤ gb1017)); have GE1017 := GW1017; replace HB := bS HB hb; clear hb hbox hg) | ((with_reducible refine gate_dst (N := 3) rfl ?_); refine bx (N := 3) (cs := #[.int .i64 a1_0, .int .i64 a1_1, .int .i64 a1_2, .int .i64 a1_3]) (t := 26) ?_; intro gb1018 hg w17 hbox hb; have BK1018 := az hbox; have GW1018 := az ((gE hg (qL HB) : w.heap.size ≤ gb1018)); have GE1018 := GW1018; obtain ⟨NB1017_1018, NB1018_1017⟩ := nPB BK1017 hg; replace BK1017 := kBB BK1017 hb; replace HB := bS HB hb; clear hb hbox hg; have hnb18 := NB1017_1018.out; have hnc18 := NB1018_1017.out; obtain ⟨hcz19_0, hcz19_1, hcz19_2, hcz19_3⟩ := cz4 BK1017.out; obtain ⟨hfz19_0, hfz19_1, hfz19_2, hfz19_3⟩ := fz4 BK1017.out; obtain ⟨hcz20_0, hcz20_1, hcz20_2, hcz20_3⟩ := cz4 BK1018.out; obtain ⟨hfz20_0, hfz20_1, hfz20_2, hfz20_3⟩ := fz4 BK1018.out))
    go_ret
    exact ⟨qE, qL HB⟩
  rw [if_neg c3] at H
  have c3b0 : decide (a0_0 ≤ a1_2) = false := decide_eq_false c3
  clear c3
  obtain rfl := Option.some.inj H
  go_enter Try.func81, Try.ntmps81
  go_wp2_with (first | ((with_reducible refine gate_dst (N := 2) rfl ?_); refine bx (N := 2) (cs := #[.int .i64 a0_0, .int .i64 a0_1, .int .i64 a0_2, .int .i64 a0_3]) (t := 26) ?_; intro gb1017 hg w21 hbox hb; have BK1017 := az hbox; have GW1017 := az ((gE hg (qL HB) : w.heap.size ≤ gb1017)); have GE1017 := GW1017; replace HB := bS HB hb; clear hb hbox hg) | ((with_reducible refine gate_dst (N := 3) rfl ?_); refine bx (N := 3) (cs := #[.int .i64 a1_0, .int .i64 a1_1, .int .i64 a1_2, .int .i64 a1_3]) (t := 26) ?_; intro gb1018 hg w22 hbox hb; have BK1018 := az hbox; have GW1018 := az ((gE hg (qL HB) : w.heap.size ≤ gb1018)); have GE1018 := GW1018; obtain ⟨NB1017_1018, NB1018_1017⟩ := nPB BK1017 hg; replace BK1017 := kBB BK1017 hb; replace HB := bS HB hb; clear hb hbox hg; have hnb23 := NB1017_1018.out; have hnc23 := NB1018_1017.out; obtain ⟨hcz24_0, hcz24_1, hcz24_2, hcz24_3⟩ := cz4 BK1017.out; obtain ⟨hfz24_0, hfz24_1, hfz24_2, hfz24_3⟩ := fz4 BK1017.out; obtain ⟨hcz25_0, hcz25_1, hcz25_2, hcz25_3⟩ := cz4 BK1018.out; obtain ⟨hfz25_0, hfz25_1, hfz25_2, hfz25_3⟩ := fz4 BK1018.out))
  go_ret
  exact ⟨qE, qL HB⟩
end Go.Proofs.Ytihajbjkjclmoaa.PBig
