/- What these functions compute, each walked once: spec_l2Clamp, spec_l1Root, spec_VecLen, spec_VecUnit, spec_l5Rounds, spec_l3Meets; for all arguments and worlds, under the conditions that each theorem names. -/
import Derived.Test.YtihajbjkjclmoaaSq
import Derived.Test.YtihajbjkjclmoaaPBigx913
namespace Go.Proofs.Ytihajbjkjclmoaa.PBig
open Go.RowKit Go.Proofs.YtihajbjkjclmoaaW.PrintWords Go.Proofs.YtihajbjkjclmoaaW.PrintLast Go.Proofs.YtihajbjkjclmoaaW.PrintMore
attribute [local go_sem] max2_int min2_int max_two min_two max_three min_three max_four min_four   -- for this text's walks alone
set_option linter.unusedVariables false
set_option linter.unusedSimpArgs false

/-! ### spec_l2Clamp: function 107 -/
def spec_l2Clamp.f (a0_0 : Int) (a0_1 : Int) : Option (Int × Int) := (spec_FixClamp.f a0_0).bind fun t885 => ((spec_FixClamp.f a0_1).bind fun t886 => (some (t885, t886)))
def spec_l2Clamp.T1 : Bool × List (List Nat × List Nat) := (true, [([], []), ([0], [0]), ([1], [1]), ([], []), ([3], [3]), ([4, 2], [4]), ([2, 5], [2, 5]), ([6, 5, 0, 1, 2, 3, 4, 5, 6], [6])])
def spec_l2Clamp.B1 : List Nat := [0, 1, 3, 0, 8, 31, 63, 127]
theorem spec_l2Clamp.tab1 : rtab .any (opsOf Try.f107 1) = spec_l2Clamp.T1 := by kernel_rfl
theorem spec_l2Clamp.bits1 : waitsOk spec_l2Clamp.T1.2 spec_l2Clamp.B1 = true := by kernel_rfl
set_option maxHeartbeats 8000000 in
set_option maxRecDepth 100000 in
theorem spec_l2Clamp.calls (a0_0 : Int) (a0_1 : Int) (r1 : Int) (r2 : Int) (w : World) (h : spec_l2Clamp.f a0_0 a0_1 = some (r1, r2)) :
    Calls Try.prog 107 #[.agg #[.int .i64 a0_0, .int .i64 a0_1]] w fun e w' => e = .returned (.agg #[.int .i64 r1, .int .i64 r2]) ∧ Below w.heap.size w w' := by
  have hu24 := Try.underlying24
  have HB := az (Below.refl w.heap.size w)
  have H : ((spec_FixClamp.f a0_0).bind fun t885 => ((spec_FixClamp.f a0_1).bind fun t886 => (some (t885, t886)))) = some (r1, r2) := h
  clear h
  replace H := qH H
  obtain ⟨t885, A2, H⟩ := H
  try dsimp only at H
  replace H := qH H
  obtain ⟨t886, A3, H⟩ := H
  try dsimp only at H
  simp only [Option.some.injEq, Prod.mk.injEq] at H
  obtain ⟨rfl, rfl⟩ := H
  go_enter Try.func107, Try.ntmps107
  try go_wp2_with (first | ((with_reducible refine gate_dst (N := 1) rfl ?_); refine bx (N := 1) (cs := #[.int .i64 a0_0, .int .i64 a0_1]) (t := 24) ?_; intro gb883 hg w4 hbox hb; have BK883 := az hbox; have GW883 := az ((gE hg (qL HB) : w.heap.size ≤ gb883)); have GE883 := GW883; replace HB := bS HB hb; clear hb hbox hg) | ((with_reducible refine gate_dst (N := 2) rfl ?_); refine bx (N := 2) (cs := #[.int .i64 0, .int .i64 0]) (t := 24) ?_; intro gb884 hg w5 hbox hb; have BK884 := az hbox; have GW884 := az ((gE hg (qL HB) : w.heap.size ≤ gb884)); have GE884 := GW884; obtain ⟨NB883_884, NB884_883⟩ := nPB BK883 hg; replace BK883 := kBB BK883 hb; replace HB := bS HB hb; clear hb hbox hg))
  replace BK883 := az (blk_drew BK883.out)
  replace BK884 := az (blk_drew BK884.out)
  replace HB := az (below_drew1 HB.out)
  refine start_ (n := 8) (S := fun w' => w'.cell? ⟨gb883, 0, none⟩ = some (.int .i64 a0_0) ∧ w'.cell? ⟨gb883, 1, none⟩ = some (.int .i64 a0_1)) (ds := []) #[false, false, false, false, false, false, false, false] (by kernel_rfl) rfl rfl ⟨bc BK883 0, bc BK883 1⟩ (fun hHeld => ?_); refine with_tabW spec_l2Clamp.tab1 spec_l2Clamp.bits1 (fun HT_ HW_ => ?_)
  generalize w5.drew = w6 at BK883 BK884 HB hHeld ⊢
  refine pu 0 (some 3) (fl 8 1) HT_ ?_
  refine pu 3 (some 6) (fl 8 9) HT_ ?_
  refine tk2 1 (some 4) (fl 8 11) HT_ HW_ hHeld ?_
  refine tk2 4 (some 7) (fl 8 27) HT_ HW_ hHeld ?_
  refine on 2 (some 5) (fl 8 31) HT_ (fun K hK => ?_)
  refine go1 Try.func108 #[.int .i64 a0_0] ?_
  with_reducible refine (spec_FixClamp.calls a0_0 t885 _ A2.out).mono ?_
  rintro e w' ⟨rfl, ⟨nd, rfl⟩⟩
  refine ⟨_, rfl, ?_⟩
  refine hK.out _ _ ⟨bc BK883 0, bc BK883 1⟩ (fun hHeld => ?_)
  clear hK K
  refine nm (some 5) ?_
  refine on 5 (some 8) (fl 8 63) HT_ (fun K hK => ?_)
  refine go1 Try.func108 #[.int .i64 a0_1] ?_
  with_reducible refine (spec_FixClamp.calls a0_1 t886 _ A3.out).mono ?_
  rintro e w' ⟨rfl, ⟨nd, rfl⟩⟩
  refine ⟨_, rfl, ?_⟩
  refine hK.out _ _ ⟨bc BK883 0, bc BK883 1⟩ (fun hHeld => ?_)
  clear hK K
  refine nm (some 8) ?_
  refine pu 6 (some 9) (fl 8 127) HT_ ?_
  refine on 7 (none) (fl 8 255) HT_ (fun K hK => ?_)
  have hs7 : w6.cell? ⟨gb884, 0, none⟩ = some (.int .i64 0) := bc BK884 0
  have hfs7 := blk_frozen BK884.out 0
  have hns7_0 := NB883_884.out
  have hms7_0 := NB884_883.out
  have hs8 : w6.cell? ⟨gb884, 1, none⟩ = some (.int .i64 0) := bc BK884 1
  have hfs8 := blk_frozen BK884.out 1
  have hns8_0 := NB883_884.out
  have hms8_0 := NB884_883.out
  refine skip_ (w1 := ?_) ?hw ?hn ?_ ?_; (case hw => unfold Region.wanted; rfl); (case hn => rfl)
  rotate_left
  · go_simp
    rfl
  refine hK.out _ _ ⟨(cf NB883_884 ((cf NB883_884 (hHeld.1)))), (cf NB883_884 ((cf NB883_884 (hHeld.2))))⟩ (fun hHeld => ?_)
  clear hK K
  refine done_ (done_of HT_.out (by kernel_rfl)) ?_
  try go_wp2
  refine bodyPost_ret (results_cell_row rfl _ _ gb884 24 #[.int .i64 t885, .int .i64 t886] (0, 0) _ rfl (qP BK884) Try.underlying24 rfl (by kernel_rfl)) rfl ?_
  exact ⟨qE, qL HB⟩

/-! ### spec_l1Root: function 109 -/
mutual
def spec_l1Root.l0 : Nat → Int → Int → Int → Option (Int)
  | 0, _, _, _ => none
  | k + 1, x0, x3, x4 => if (wrap64 (x4 * x4)) ≤ x0 then (spec_l1Root.l0 k x0 x3 (wrap64 (2 * x4))) else (spec_l1Root.l1 k x0 x3 x4)
def spec_l1Root.l1 : Nat → Int → Int → Int → Option (Int)
  | 0, _, _, _ => none
  | k + 1, x0, x3, x4 => if (wrap64 (x4 - x3)) > 1 then (if (wrap64 ((wrap64 (Int.tdiv (wrap64 (x3 + x4)) 2)) * (wrap64 (Int.tdiv (wrap64 (x3 + x4)) 2)))) ≤ x0 then (spec_l1Root.l1 k x0 (wrap64 (Int.tdiv (wrap64 (x3 + x4)) 2)) x4) else (spec_l1Root.l1 k x0 x3 (wrap64 (Int.tdiv (wrap64 (x3 + x4)) 2)))) else (some x3)
end
def spec_l1Root.f (k : Nat) (a0 : Int) : Option (Int) := spec_l1Root.l0 k a0 0 1
theorem spec_l1Root.mono_l : ∀ k, (∀ y0 y1 y2, LeO (spec_l1Root.l0 k y0 y1 y2) (spec_l1Root.l0 (k + 1) y0 y1 y2)) ∧ (∀ y0 y1 y2, LeO (spec_l1Root.l1 k y0 y1 y2) (spec_l1Root.l1 (k + 1) y0 y1 y2))
  | 0 => ⟨fun _ _ _ r h => by simp [spec_l1Root.l0] at h, fun _ _ _ r h => by simp [spec_l1Root.l1] at h⟩
  | k + 1 => by
    obtain ⟨ih0, ih1⟩ := spec_l1Root.mono_l k
    refine ⟨?_, ?_⟩
    · intro y0 y1 y2
      unfold spec_l1Root.l0
      repeat' first
      | (with_reducible exact ih0 _ _ _)
      | (with_reducible exact ih1 _ _ _)
      | (with_reducible exact LeO.refl _)
      | (with_reducible exact LeO.none _)
      | (with_reducible refine LeO.ite ?_ ?_)
      | (with_reducible refine LeO.bind ?_ (fun _ => ?_))
    · intro y0 y1 y2
      unfold spec_l1Root.l1
      repeat' first
      | (with_reducible exact ih0 _ _ _)
      | (with_reducible exact ih1 _ _ _)
      | (with_reducible exact LeO.refl _)
      | (with_reducible exact LeO.none _)
      | (with_reducible refine LeO.ite ?_ ?_)
      | (with_reducible refine LeO.bind ?_ (fun _ => ?_))
theorem spec_l1Root.mono : ∀ a0 k, LeO (spec_l1Root.f k a0) (spec_l1Root.f (k + 1) a0) := by
  intro a0 k
  obtain ⟨ih0, ih1⟩ := spec_l1Root.mono_l k
  unfold spec_l1Root.f
  repeat' first
      | (with_reducible exact ih0 _ _ _)
      | (with_reducible exact ih1 _ _ _)
      | (with_reducible exact LeO.refl _)
      | (with_reducible exact LeO.none _)
      | (with_reducible refine LeO.ite ?_ ?_)
      | (with_reducible refine LeO.bind ?_ (fun _ => ?_))
set_option maxHeartbeats 8000000 in
set_option maxRecDepth 100000 in
theorem spec_l1Root.calls (k : Nat) (a0 : Int) (r : Int) (w : World) (h : spec_l1Root.f k a0 = some r) :
    Calls Try.prog 109 #[.int .i64 a0] w fun e w' => e = .returned (.int .i64 r) ∧ Drawn0 w w' := by
  have H : (spec_l1Root.l0 k a0 0 1) = some r := h
  clear h
  have H' := az H
  clear H
  go_enter Try.func109, Try.ntmps109
  go_wp2
  go_loopg [4] k (fun kq v4 w' => ∃ (x4_1 : Int), v4 = .int .i64 x4_1 ∧ Aside0 (spec_l1Root.l0 kq a0 0 x4_1 = some r) ∧ Aside0 (kq ≤ k) ∧ Drawn0 w w')
  case atStart => exact ⟨(1), (by first | rfl | (simp; done) | (simp [*]; done)), H', ⟨Nat.le_refl _⟩, by repeat (first | exact Drawn0.refl _ | apply Drawn0.step)⟩
  case round =>
    clear H'
    try clear c1
    obtain ⟨x4_1, rfl, HA, HK1, ⟨m1, rfl⟩⟩ := hrel
    cases gk with
    | zero => exact absurd HA.out (by simp [spec_l1Root.l0])
    | succ k1 => ?_
    have H := HA.out
    clear HA
    simp only [spec_l1Root.l0] at H
    by_cases c2 : (wrap64 (x4_1 * x4_1)) ≤ a0
    · rw [if_pos c2] at H
      have c2b0 : decide ((wrap64 (x4_1 * x4_1)) ≤ a0) = true := decide_eq_true c2
      clear c2
      have H' := az H
      clear H
      go_wp2
      go_roundg k1
      case measure => have := HK1.out; omega
      case rel => exact ⟨(wrap64 (2 * x4_1)), (by first | rfl | (simp; done) | (simp [*]; done)), H', ⟨by have := HK1.out; omega⟩, by repeat (first | exact Drawn0.refl _ | apply Drawn0.step)⟩
    rw [if_neg c2] at H
    have c2b0 : decide ((wrap64 (x4_1 * x4_1)) ≤ a0) = false := decide_eq_false c2
    clear c2
    have H' := az H
    clear H
    go_wp2
    go_loopg [3, 4] k1 (fun kq v3 v4 w' => ∃ (x3_2 : Int) (x4_2 : Int), v3 = .int .i64 x3_2 ∧ v4 = .int .i64 x4_2 ∧ Aside0 (spec_l1Root.l1 kq a0 x3_2 x4_2 = some r) ∧ Aside0 (kq ≤ k1) ∧ Drawn0 w w')
    case atStart => exact ⟨(0), (x4_1), (by first | rfl | (simp; done) | (simp [*]; done)), (by first | rfl | (simp; done) | (simp [*]; done)), H', ⟨Nat.le_refl _⟩, by repeat (first | exact Drawn0.refl _ | apply Drawn0.step)⟩
    case round =>
      clear H'
      (try clear c1); (try clear c2); (try clear c2b0)
      obtain ⟨x3_2, x4_2, rfl, rfl, HA, HK2, ⟨m2, rfl⟩⟩ := hrel
      cases gk with
      | zero => exact absurd HA.out (by simp [spec_l1Root.l1])
      | succ k2 => ?_
      have H := HA.out
      clear HA
      simp only [spec_l1Root.l1] at H
      by_cases c3 : (wrap64 (x4_2 - x3_2)) > 1
      · rw [if_pos c3] at H
        have c3b0 : decide (1 < (wrap64 (x4_2 - x3_2))) = true := decide_eq_true c3
        clear c3
        by_cases c4 : (wrap64 ((wrap64 (Int.tdiv (wrap64 (x3_2 + x4_2)) 2)) * (wrap64 (Int.tdiv (wrap64 (x3_2 + x4_2)) 2)))) ≤ a0
        · rw [if_pos c4] at H
          have c4b0 : decide ((wrap64 ((wrap64 (Int.tdiv (wrap64 (x3_2 + x4_2)) 2)) * (wrap64 (Int.tdiv (wrap64 (x3_2 + x4_2)) 2)))) ≤ a0) = true := decide_eq_true c4
          clear c4
          have H' := az H
          clear H
          go_wp2
          go_roundg k2
          case measure => have := HK1.out; have := HK2.out; omega
          case rel => exact ⟨(wrap64 (Int.tdiv (wrap64 (x3_2 + x4_2)) 2)), (x4_2), (by first | rfl | (simp; done) | (simp [*]; done)), (by first | rfl | (simp; done) | (simp [*]; done)), H', ⟨by have := HK1.out; have := HK2.out; omega⟩, by repeat (first | exact Drawn0.refl _ | apply Drawn0.step)⟩
        rw [if_neg c4] at H
        have c4b0 : decide ((wrap64 ((wrap64 (Int.tdiv (wrap64 (x3_2 + x4_2)) 2)) * (wrap64 (Int.tdiv (wrap64 (x3_2 + x4_2)) 2)))) ≤ a0) = false := decide_eq_false c4
        clear c4
        have H' := az H
        clear H
        go_wp2
        go_roundg k2
        case measure => have := HK1.out; have := HK2.out; omega
        case rel => exact ⟨(x3_2), (wrap64 (Int.tdiv (wrap64 (x3_2 + x4_2)) 2)), (by first | rfl | (simp; done) | (simp [*]; done)), (by first | rfl | (simp; done) | (simp [*]; done)), H', ⟨by have := HK1.out; have := HK2.out; omega⟩, by repeat (first | exact Drawn0.refl _ | apply Drawn0.step)⟩
      rw [if_neg c3] at H
      have c3b0 : decide (1 < (wrap64 (x4_2 - x3_2))) = false := decide_eq_false c3
      clear c3
      obtain rfl := Option.some.inj H
      go_wp2
      go_ret
      exact ⟨by first | rfl | (simp; done) | (simp [*]; done), by repeat (first | exact Drawn0.refl _ | apply Drawn0.step)⟩

/-! ### spec_VecLen: function 102 -/
def spec_VecLen.f (k : Nat) (a0_0 : Int) (a0_1 : Int) : Option (Int) := (spec_l2Clamp.f a0_0 a0_1).bind fun bt888 => ((spec_l2Square.f bt888.1 bt888.2).bind fun t890 => ((spec_l1Root.f k t890).bind fun t891 => ((spec_FixClamp.f t891).bind fun t892 => (some t892))))
theorem spec_VecLen.mono : ∀ a0 a1 k, LeO (spec_VecLen.f k a0 a1) (spec_VecLen.f (k + 1) a0 a1) := by
  intro a0 a1 k
  unfold spec_VecLen.f
  repeat' first
      | (with_reducible exact spec_l1Root.mono _ _)
      | (with_reducible exact LeO.refl _)
      | (with_reducible exact LeO.none _)
      | (with_reducible refine LeO.ite ?_ ?_)
      | (with_reducible refine LeO.bind ?_ (fun _ => ?_))
set_option maxHeartbeats 8000000 in
set_option maxRecDepth 100000 in
theorem spec_VecLen.calls (k : Nat) (a0_0 : Int) (a0_1 : Int) (r : Int) (w : World) (h : spec_VecLen.f k a0_0 a0_1 = some r) :
    Calls Try.prog 102 #[.agg #[.int .i64 a0_0, .int .i64 a0_1]] w fun e w' => e = .returned (.int .i64 r) ∧ Below w.heap.size w w' := by
  have hu24 := Try.underlying24
  have HB := az (Below.refl w.heap.size w)
  have H : ((spec_l2Clamp.f a0_0 a0_1).bind fun bt888 => ((spec_l2Square.f bt888.1 bt888.2).bind fun t890 => ((spec_l1Root.f k t890).bind fun t891 => ((spec_FixClamp.f t891).bind fun t892 => (some t892))))) = some r := h
  clear h
  replace H := qH H
  obtain ⟨⟨t888, t889⟩, A2, H⟩ := H
  try dsimp only at H
  replace H := qH H
  obtain ⟨t890, A3, H⟩ := H
  try dsimp only at H
  replace H := qH H
  obtain ⟨t891, A4, H⟩ := H
  try dsimp only at H
  replace H := qH H
  obtain ⟨t892, A5, H⟩ := H
  try dsimp only at H
  obtain rfl := Option.some.inj H
  go_enter Try.func102, Try.ntmps102
  go_wp2_with (first | ((with_reducible refine gate_dst (N := 1) rfl ?_); refine bx (N := 1) (cs := #[.int .i64 a0_0, .int .i64 a0_1]) (t := 24) ?_; intro gb887 hg w6 hbox hb; have BK887 := az hbox; have GW887 := az ((gE hg (qL HB) : w.heap.size ≤ gb887)); have GE887 := GW887; replace HB := bS HB hb; clear hb hbox hg; obtain ⟨hcz7_0, hcz7_1⟩ := cz2 BK887.out; have hfz7_0 := blk_frozen BK887.out 0; have hfz7_1 := blk_frozen BK887.out 1) | ((with_reducible refine gate_callee (f := 107) rfl ?_); refine gl (some 4) Try.func107 #[.agg #[.int .i64 a0_0, .int .i64 a0_1]] ?_; (with_reducible refine (spec_l2Clamp.calls a0_0 a0_1 t888 t889 _ A2.out).mono ?_); rintro e w8 ⟨rfl, hb⟩; refine ⟨_, rfl, ?_⟩; replace BK887 := kBB BK887 hb; replace HB := bS HB hb; clear hb) | ((with_reducible refine gate_callee (f := 100) rfl ?_); refine gl (some 5) Try.func100 #[.agg #[.int .i64 t888, .int .i64 t889]] ?_; (with_reducible refine (spec_l2Square.calls t888 t889 t890 _ A3.out).mono ?_); rintro e w9 ⟨rfl, hb⟩; refine ⟨_, rfl, ?_⟩; replace BK887 := kBB BK887 hb; replace HB := bS HB hb; clear hb) | ((with_reducible refine gate_callee (f := 109) rfl ?_); refine gl (some 6) Try.func109 #[.int .i64 t890] ?_; (with_reducible refine (spec_l1Root.calls k t890 t891 _ A4.out).mono ?_); rintro e w' ⟨rfl, ⟨nd, rfl⟩⟩; refine ⟨_, rfl, ?_⟩) | ((with_reducible refine gate_callee (f := 108) rfl ?_); refine gl (some 7) Try.func108 #[.int .i64 t891] ?_; (with_reducible refine (spec_FixClamp.calls t891 t892 _ A5.out).mono ?_); rintro e w' ⟨rfl, ⟨nd, rfl⟩⟩; refine ⟨_, rfl, ?_⟩))
  go_ret
  exact ⟨qE, qL HB⟩

/-! ### spec_VecUnit: function 101 -/
def spec_VecUnit.f (k : Nat) (a0_0 : Int) (a0_1 : Int) : Option (Int × Int) := (spec_l2Clamp.f a0_0 a0_1).bind fun bt895 => ((spec_VecLen.f k bt895.1 bt895.2).bind fun t897 => (if t897 = 0 then (some (0, 256)) else (some (wrap64 (Int.tdiv (wrap64 (bt895.1 * 256)) t897), wrap64 (Int.tdiv (wrap64 (bt895.2 * 256)) t897)))))
theorem spec_VecUnit.mono : ∀ a0 a1 k, LeO (spec_VecUnit.f k a0 a1) (spec_VecUnit.f (k + 1) a0 a1) := by
  intro a0 a1 k
  unfold spec_VecUnit.f
  repeat' first
      | (with_reducible exact spec_VecLen.mono _ _ _)
      | (with_reducible exact LeO.refl _)
      | (with_reducible exact LeO.none _)
      | (with_reducible refine LeO.ite ?_ ?_)
      | (with_reducible refine LeO.bind ?_ (fun _ => ?_))
def spec_VecUnit.T5 : Bool × List (List Nat × List Nat) := (true, [([], []), ([0], [0]), ([1], [1]), ([], []), ([2, 3], [2, 3]), ([], []), ([5], [5]), ([6], [6]), ([], []), ([7, 8], [7, 8]), ([4, 9], [4, 9]), ([10, 0, 1, 2, 3, 4, 5, 6, 7, 8, 9, 10], [10])])
def spec_VecUnit.B5 : List Nat := [0, 1, 3, 0, 15, 0, 32, 96, 0, 480, 1023, 2047]
theorem spec_VecUnit.tab5 : rtab .any (opsOf Try.f101 5) = spec_VecUnit.T5 := by kernel_rfl
theorem spec_VecUnit.bits5 : waitsOk spec_VecUnit.T5.2 spec_VecUnit.B5 = true := by kernel_rfl
set_option maxHeartbeats 8000000 in
set_option maxRecDepth 100000 in
theorem spec_VecUnit.calls (k : Nat) (a0_0 : Int) (a0_1 : Int) (r1 : Int) (r2 : Int) (w : World) (h : spec_VecUnit.f k a0_0 a0_1 = some (r1, r2)) :
    Calls Try.prog 101 #[.agg #[.int .i64 a0_0, .int .i64 a0_1]] w fun e w' => e = .returned (.agg #[.int .i64 r1, .int .i64 r2]) ∧ Below w.heap.size w w' := by
  have hu24 := Try.underlying24
  have HB := az (Below.refl w.heap.size w)
  have H : ((spec_l2Clamp.f a0_0 a0_1).bind fun bt895 => ((spec_VecLen.f k bt895.1 bt895.2).bind fun t897 => (if t897 = 0 then (some (0, 256)) else (some (wrap64 (Int.tdiv (wrap64 (bt895.1 * 256)) t897), wrap64 (Int.tdiv (wrap64 (bt895.2 * 256)) t897)))))) = some (r1, r2) := h
  clear h
  replace H := qH H
  obtain ⟨⟨t895, t896⟩, A2, H⟩ := H
  try dsimp only at H
  replace H := qH H
  obtain ⟨t897, A3, H⟩ := H
  try dsimp only at H
  by_cases c4 : t897 = 0
  · rw [if_pos c4] at H
    have c4b0 : (t897 == 0) = true := beq_iff_eq.mpr c4
    have c4b1 : (t897 != 0) = false := bne_eq_false_iff_eq.mpr c4
    clear c4
    simp only [Option.some.injEq, Prod.mk.injEq] at H
    obtain ⟨rfl, rfl⟩ := H
    go_enter Try.func101, Try.ntmps101
    go_wp2_with (first | ((with_reducible refine gate_dst (N := 1) rfl ?_); refine bx (N := 1) (cs := #[.int .i64 a0_0, .int .i64 a0_1]) (t := 24) ?_; intro gb893 hg w5 hbox hb; have BK893 := az hbox; have GW893 := az ((gE hg (qL HB) : w.heap.size ≤ gb893)); have GE893 := GW893; replace HB := bS HB hb; clear hb hbox hg) | ((with_reducible refine gate_dst (N := 2) rfl ?_); refine bx (N := 2) (cs := #[.int .i64 0, .int .i64 0]) (t := 24) ?_; intro gb894 hg w6 hbox hb; have BK894 := az hbox; have GW894 := az ((gE hg (qL HB) : w.heap.size ≤ gb894)); have GE894 := GW894; obtain ⟨NB893_894, NB894_893⟩ := nPB BK893 hg; replace BK893 := kBB BK893 hb; replace HB := bS HB hb; clear hb hbox hg; have hnb7 := NB893_894.out; have hnc7 := NB894_893.out; obtain ⟨hcz8_0, hcz8_1⟩ := cz2 BK893.out; have hfz8_0 := blk_frozen BK893.out 0; have hfz8_1 := blk_frozen BK893.out 1) | ((with_reducible refine gate_callee (f := 107) rfl ?_); refine gl (some 5) Try.func107 #[.agg #[.int .i64 a0_0, .int .i64 a0_1]] ?_; (with_reducible refine (spec_l2Clamp.calls a0_0 a0_1 t895 t896 _ A2.out).mono ?_); rintro e w9 ⟨rfl, hb⟩; refine ⟨_, rfl, ?_⟩; replace BK893 := kBB BK893 hb; replace BK894 := kBB BK894 hb; replace HB := bS HB hb; clear hb; obtain ⟨hcz10_0, hcz10_1⟩ := cz2 BK893.out; have hfz10_0 := blk_frozen BK893.out 0; have hfz10_1 := blk_frozen BK893.out 1) | ((with_reducible refine gate_callee (f := 102) rfl ?_); refine gl (some 7) Try.func102 #[.agg #[.int .i64 t895, .int .i64 t896]] ?_; (with_reducible refine (spec_VecLen.calls k t895 t896 t897 _ A3.out).mono ?_); rintro e w11 ⟨rfl, hb⟩; refine ⟨_, rfl, ?_⟩; replace BK893 := kBP (o' := .cells #[.int .i64 t895, .int .i64 t896] 24 (0, 0)) BK893 hb; replace BK894 := kBF BK894 hb; replace HB := bS HB hb; clear hb; obtain ⟨hcz12_0, hcz12_1⟩ := cz2 BK894.out; have hfz12_0 := blk_frozen BK894.out 0; have hfz12_1 := blk_frozen BK894.out 1))
    refine bodyPost_ret (results_cell_row rfl _ _ gb894 24 #[.int .i64 0, .int .i64 256] (0, 0) _ rfl (qP BK894) Try.underlying24 rfl (by kernel_rfl)) rfl ?_
    exact ⟨qE, qL HB⟩
  rw [if_neg c4] at H
  have c4b0 : (t897 == 0) = false := beq_eq_false_iff_ne.mpr c4
  have c4b1 : (t897 != 0) = true := bne_iff_ne.mpr c4
  simp only [Option.some.injEq, Prod.mk.injEq] at H
  obtain ⟨rfl, rfl⟩ := H
  go_enter Try.func101, Try.ntmps101
  try go_wp2_with (first | ((with_reducible refine gate_dst (N := 1) rfl ?_); refine bx (N := 1) (cs := #[.int .i64 a0_0, .int .i64 a0_1]) (t := 24) ?_; intro gb893 hg w13 hbox hb; have BK893 := az hbox; have GW893 := az ((gE hg (qL HB) : w.heap.size ≤ gb893)); have GE893 := GW893; replace HB := bS HB hb; clear hb hbox hg) | ((with_reducible refine gate_dst (N := 2) rfl ?_); refine bx (N := 2) (cs := #[.int .i64 0, .int .i64 0]) (t := 24) ?_; intro gb894 hg w14 hbox hb; have BK894 := az hbox; have GW894 := az ((gE hg (qL HB) : w.heap.size ≤ gb894)); have GE894 := GW894; obtain ⟨NB893_894, NB894_893⟩ := nPB BK893 hg; replace BK893 := kBB BK893 hb; replace HB := bS HB hb; clear hb hbox hg; have hnb15 := NB893_894.out; have hnc15 := NB894_893.out; obtain ⟨hcz16_0, hcz16_1⟩ := cz2 BK893.out; have hfz16_0 := blk_frozen BK893.out 0; have hfz16_1 := blk_frozen BK893.out 1) | ((with_reducible refine gate_callee (f := 107) rfl ?_); refine gl (some 5) Try.func107 #[.agg #[.int .i64 a0_0, .int .i64 a0_1]] ?_; (with_reducible refine (spec_l2Clamp.calls a0_0 a0_1 t895 t896 _ A2.out).mono ?_); rintro e w17 ⟨rfl, hb⟩; refine ⟨_, rfl, ?_⟩; replace BK893 := kBB BK893 hb; replace BK894 := kBB BK894 hb; replace HB := bS HB hb; clear hb; obtain ⟨hcz18_0, hcz18_1⟩ := cz2 BK893.out; have hfz18_0 := blk_frozen BK893.out 0; have hfz18_1 := blk_frozen BK893.out 1) | ((with_reducible refine gate_callee (f := 102) rfl ?_); refine gl (some 7) Try.func102 #[.agg #[.int .i64 t895, .int .i64 t896]] ?_; (with_reducible refine (spec_VecLen.calls k t895 t896 t897 _ A3.out).mono ?_); rintro e w19 ⟨rfl, hb⟩; refine ⟨_, rfl, ?_⟩; replace BK893 := kBP (o' := .cells #[.int .i64 t895, .int .i64 t896] 24 (0, 0)) BK893 hb; replace BK894 := kBF BK894 hb; replace HB := bS HB hb; clear hb))
  replace BK893 := az (blk_drew BK893.out)
  replace BK894 := az (blk_drew BK894.out)
  replace HB := az (below_drew1 HB.out)
  refine start_ (n := 12) (S := fun w' => w'.cell? ⟨gb893, 0, none⟩ = some (.int .i64 t895) ∧ w'.cell? ⟨gb893, 1, none⟩ = some (.int .i64 t896)) (ds := []) #[false, false, false, false, false, false, false, false, false, false, false, false] (by kernel_rfl) rfl rfl ⟨bc BK893 0, bc BK893 1⟩ (fun hHeld => ?_); refine with_tabW spec_VecUnit.tab5 spec_VecUnit.bits5 (fun HT_ HW_ => ?_)
  generalize w19.drew = w20 at BK893 BK894 HB hHeld ⊢
  refine pu 0 (some 11) (fl 12 1) HT_ ?_
  refine pu 3 (some 14) (fl 12 9) HT_ ?_
  refine pu 5 (some 16) (fl 12 41) HT_ ?_
  refine pu 8 (some 19) (fl 12 297) HT_ ?_
  refine tk2 1 (some 12) (fl 12 299) HT_ HW_ hHeld ?_
  refine pu 2 (some 13) (fl 12 303) HT_ ?_
  refine pu 4 (some 15) (fl 12 319) HT_ ?_
  refine tk2 6 (some 17) (fl 12 383) HT_ HW_ hHeld ?_
  refine pu 7 (some 18) (fl 12 511) HT_ ?_
  refine pu 9 (some 20) (fl 12 1023) HT_ ?_
  refine pu 10 (some 21) (fl 12 2047) HT_ ?_
  refine on 11 (none) (fl 12 4095) HT_ (fun K hK => ?_)
  have hs21 : w20.cell? ⟨gb894, 0, none⟩ = some (.int .i64 0) := bc BK894 0
  have hfs21 := blk_frozen BK894.out 0
  have hns21_0 := NB893_894.out
  have hms21_0 := NB894_893.out
  have hs22 : w20.cell? ⟨gb894, 1, none⟩ = some (.int .i64 0) := bc BK894 1
  have hfs22 := blk_frozen BK894.out 1
  have hns22_0 := NB893_894.out
  have hms22_0 := NB894_893.out
  refine skip_ (w1 := ?_) ?hw ?hn ?_ ?_; (case hw => unfold Region.wanted; rfl); (case hn => rfl)
  rotate_left
  · go_simp
    rfl
  refine hK.out _ _ ⟨(cf NB893_894 ((cf NB893_894 (hHeld.1)))), (cf NB893_894 ((cf NB893_894 (hHeld.2))))⟩ (fun hHeld => ?_)
  clear hK K
  refine done_ (done_of HT_.out (by kernel_rfl)) ?_
  try go_wp2
  refine bodyPost_ret (results_cell_row rfl _ _ gb894 24 #[.int .i64 (wrap64 (Int.tdiv (wrap64 (t895 * 256)) t897)), .int .i64 (wrap64 (Int.tdiv (wrap64 (t896 * 256)) t897))] (0, 0) _ rfl (qP BK894) Try.underlying24 rfl (by kernel_rfl)) rfl ?_
  exact ⟨qE, qL HB⟩

/-! ### spec_l5Rounds: function 90 -/
def spec_l5Rounds.f (k : Nat) (a0_0 : Int) (a0_1 : Int) (a1_0 : Int) (a1_1 : Int) (a2 : Int) : Option (Int × Int × Int × Bool) := (spec_l2Square.f (wrap64 (a1_0 - a0_0)) (wrap64 (a1_1 - a0_1))).bind fun t902 => (if t902 > (wrap64 (a2 * a2)) then (some (0, 0, 0, false)) else ((spec_VecUnit.f k (wrap64 (a1_0 - a0_0)) (wrap64 (a1_1 - a0_1))).bind fun bt903 => ((spec_VecLen.f k (wrap64 (a1_0 - a0_0)) (wrap64 (a1_1 - a0_1))).bind fun t905 => (some (bt903.1, bt903.2, wrap64 (a2 - t905), true)))))
theorem spec_l5Rounds.mono : ∀ a0 a1 a2 a3 a4 k, LeO (spec_l5Rounds.f k a0 a1 a2 a3 a4) (spec_l5Rounds.f (k + 1) a0 a1 a2 a3 a4) := by
  intro a0 a1 a2 a3 a4 k
  unfold spec_l5Rounds.f
  repeat' first
      | (with_reducible exact spec_VecLen.mono _ _ _)
      | (with_reducible exact spec_VecUnit.mono _ _ _)
      | (with_reducible exact LeO.refl _)
      | (with_reducible exact LeO.none _)
      | (with_reducible refine LeO.ite ?_ ?_)
      | (with_reducible refine LeO.bind ?_ (fun _ => ?_))
def spec_l5Rounds.T4 : Bool × List (List Nat × List Nat) := (true, [([], []), ([0], [0]), ([], []), ([], []), ([3, 1], [3]), ([2, 4], [2, 4]), ([1, 5], [1, 5]), ([6, 4, 0, 1, 2, 3, 4, 5, 6], [6]), ([7, 0, 1, 2, 3, 4, 5, 6, 7], [])])
def spec_l5Rounds.B4 : List Nat := [0, 1, 0, 0, 11, 31, 63, 127, 255]
theorem spec_l5Rounds.tab4 : rtab .any (opsOf Try.f90 4) = spec_l5Rounds.T4 := by kernel_rfl
theorem spec_l5Rounds.bits4 : waitsOk spec_l5Rounds.T4.2 spec_l5Rounds.B4 = true := by kernel_rfl
set_option maxHeartbeats 8000000 in
set_option maxRecDepth 100000 in
theorem spec_l5Rounds.calls (k : Nat) (a0_0 : Int) (a0_1 : Int) (a1_0 : Int) (a1_1 : Int) (a2 : Int) (r1 : Int) (r2 : Int) (r3 : Int) (r4 : Bool) (w : World) (h : spec_l5Rounds.f k a0_0 a0_1 a1_0 a1_1 a2 = some (r1, r2, r3, r4)) :
    Calls Try.prog 90 #[.agg #[.int .i64 a0_0, .int .i64 a0_1], .agg #[.int .i64 a1_0, .int .i64 a1_1], .int .i64 a2] w fun e w' => e = .returned (.tuple #[.agg #[.int .i64 r1, .int .i64 r2, .int .i64 r3], .bool r4]) ∧ Below w.heap.size w w' := by
  have hu24 := Try.underlying24
  have hu56 := Try.underlying56
  have HB := az (Below.refl w.heap.size w)
  have H : ((spec_l2Square.f (wrap64 (a1_0 - a0_0)) (wrap64 (a1_1 - a0_1))).bind fun t902 => (if t902 > (wrap64 (a2 * a2)) then (some (0, 0, 0, false)) else ((spec_VecUnit.f k (wrap64 (a1_0 - a0_0)) (wrap64 (a1_1 - a0_1))).bind fun bt903 => ((spec_VecLen.f k (wrap64 (a1_0 - a0_0)) (wrap64 (a1_1 - a0_1))).bind fun t905 => (some (bt903.1, bt903.2, wrap64 (a2 - t905), true)))))) = some (r1, r2, r3, r4) := h
  clear h
  replace H := qH H
  obtain ⟨t902, A4, H⟩ := H
  try dsimp only at H
  by_cases c5 : t902 > (wrap64 (a2 * a2))
  · rw [if_pos c5] at H
    have c5b0 : decide ((wrap64 (a2 * a2)) < t902) = true := decide_eq_true c5
    clear c5
    simp only [Option.some.injEq, Prod.mk.injEq] at H
    obtain ⟨rfl, rfl, rfl, rfl⟩ := H
    go_enter Try.func90, Try.ntmps90
    go_wp2_with (first | ((with_reducible refine gate_dst (N := 3) rfl ?_); refine bx (N := 3) (cs := #[.int .i64 a0_0, .int .i64 a0_1]) (t := 24) ?_; intro gb898 hg w6 hbox hb; have BK898 := az hbox; have GW898 := az ((gE hg (qL HB) : w.heap.size ≤ gb898)); have GE898 := GW898; replace HB := bS HB hb; clear hb hbox hg) | ((with_reducible refine gate_dst (N := 4) rfl ?_); refine bx (N := 4) (cs := #[.int .i64 a1_0, .int .i64 a1_1]) (t := 24) ?_; intro gb899 hg w7 hbox hb; have BK899 := az hbox; have GW899 := az ((gE hg (qL HB) : w.heap.size ≤ gb899)); have GE899 := GW899; obtain ⟨NB898_899, NB899_898⟩ := nPB BK898 hg; replace BK898 := kBB BK898 hb; replace HB := bS HB hb; clear hb hbox hg) | ((with_reducible refine gate_dst (N := 6) rfl ?_); refine bx (N := 6) (cs := #[.int .i64 0, .int .i64 0, .int .i64 0]) (t := 56) ?_; intro gb900 hg w8 hbox hb; have BK900 := az hbox; have GW900 := az ((gE hg (qL HB) : w.heap.size ≤ gb900)); have GE900 := GW900; obtain ⟨NB898_900, NB900_898⟩ := nPB BK898 hg; obtain ⟨NB899_900, NB900_899⟩ := nPB BK899 hg; replace BK898 := kBB BK898 hb; replace BK899 := kBB BK899 hb; replace HB := bS HB hb; clear hb hbox hg; have hnb9 := NB899_898.out; have hnc9 := NB898_899.out; have hnb10 := NB899_900.out; have hnc10 := NB900_899.out; obtain ⟨hcz11_0, hcz11_1⟩ := cz2 BK899.out; have hfz11_0 := blk_frozen BK899.out 0; have hfz11_1 := blk_frozen BK899.out 1; have hnb12 := NB898_900.out; have hnc12 := NB900_898.out; obtain ⟨hcz13_0, hcz13_1⟩ := cz2 BK898.out; have hfz13_0 := blk_frozen BK898.out 0; have hfz13_1 := blk_frozen BK898.out 1) | ((with_reducible refine gate_dst (N := 8) rfl ?_); refine bx (N := 8) (cs := #[.int .i64 0, .int .i64 0]) (t := 24) ?_; intro gb901 hg w14 hbox hb; have BK901 := az hbox; have GW901 := az ((gE hg (qL HB) : w.heap.size ≤ gb901)); have GE901 := GW901; obtain ⟨NB898_901, NB901_898⟩ := nPB BK898 hg; obtain ⟨NB899_901, NB901_899⟩ := nPB BK899 hg; obtain ⟨NB900_901, NB901_900⟩ := nPB BK900 hg; replace BK898 := kBB BK898 hb; replace BK899 := kBB BK899 hb; replace BK900 := kBB BK900 hb; replace HB := bS HB hb; clear hb hbox hg; have hnb15 := NB901_898.out; have hnc15 := NB898_901.out; have hnb16 := NB901_899.out; have hnc16 := NB899_901.out; have hnb17 := NB901_900.out; have hnc17 := NB900_901.out; obtain ⟨hcz18_0, hcz18_1⟩ := cz2 BK901.out; have hfz18_0 := blk_frozen BK901.out 0; have hfz18_1 := blk_frozen BK901.out 1) | ((with_reducible refine gate_callee (f := 100) rfl ?_); refine gl (some 21) Try.func100 #[.agg #[.int .i64 (wrap64 (a1_0 - a0_0)), .int .i64 (wrap64 (a1_1 - a0_1))]] ?_; (with_reducible refine (spec_l2Square.calls (wrap64 (a1_0 - a0_0)) (wrap64 (a1_1 - a0_1)) t902 _ A4.out).mono ?_); rintro e w19 ⟨rfl, hb⟩; refine ⟨_, rfl, ?_⟩; replace BK898 := kBF BK898 hb; replace BK899 := kBF BK899 hb; replace BK900 := kBF BK900 hb; replace BK901 := kBP (o' := .cells #[.int .i64 (wrap64 (a1_0 - a0_0)), .int .i64 (wrap64 (a1_1 - a0_1))] 24 (0, 0)) BK901 hb; replace HB := bS HB hb; clear hb; obtain ⟨hcz20_0, hcz20_1, hcz20_2⟩ := cz3 BK900.out; obtain ⟨hfz20_0, hfz20_1, hfz20_2⟩ := fz3 BK900.out))
    refine bodyPost_ret (results_ct rfl _ _ gb900 56 #[.int .i64 0, .int .i64 0, .int .i64 0] (0, 0) _ rfl (qP BK900) Try.underlying56 rfl (by kernel_rfl)) rfl ?_
    exact ⟨qE, qL HB⟩
  rw [if_neg c5] at H
  have c5b0 : decide ((wrap64 (a2 * a2)) < t902) = false := decide_eq_false c5
  clear c5
  replace H := qH H
  obtain ⟨⟨t903, t904⟩, A21, H⟩ := H
  try dsimp only at H
  replace H := qH H
  obtain ⟨t905, A22, H⟩ := H
  try dsimp only at H
  simp only [Option.some.injEq, Prod.mk.injEq] at H
  obtain ⟨rfl, rfl, rfl, rfl⟩ := H
  go_enter Try.func90, Try.ntmps90
  try go_wp2_with (first | ((with_reducible refine gate_dst (N := 3) rfl ?_); refine bx (N := 3) (cs := #[.int .i64 a0_0, .int .i64 a0_1]) (t := 24) ?_; intro gb898 hg w23 hbox hb; have BK898 := az hbox; have GW898 := az ((gE hg (qL HB) : w.heap.size ≤ gb898)); have GE898 := GW898; replace HB := bS HB hb; clear hb hbox hg) | ((with_reducible refine gate_dst (N := 4) rfl ?_); refine bx (N := 4) (cs := #[.int .i64 a1_0, .int .i64 a1_1]) (t := 24) ?_; intro gb899 hg w24 hbox hb; have BK899 := az hbox; have GW899 := az ((gE hg (qL HB) : w.heap.size ≤ gb899)); have GE899 := GW899; obtain ⟨NB898_899, NB899_898⟩ := nPB BK898 hg; replace BK898 := kBB BK898 hb; replace HB := bS HB hb; clear hb hbox hg) | ((with_reducible refine gate_dst (N := 6) rfl ?_); refine bx (N := 6) (cs := #[.int .i64 0, .int .i64 0, .int .i64 0]) (t := 56) ?_; intro gb900 hg w25 hbox hb; have BK900 := az hbox; have GW900 := az ((gE hg (qL HB) : w.heap.size ≤ gb900)); have GE900 := GW900; obtain ⟨NB898_900, NB900_898⟩ := nPB BK898 hg; obtain ⟨NB899_900, NB900_899⟩ := nPB BK899 hg; replace BK898 := kBB BK898 hb; replace BK899 := kBB BK899 hb; replace HB := bS HB hb; clear hb hbox hg; have hnb26 := NB899_898.out; have hnc26 := NB898_899.out; have hnb27 := NB899_900.out; have hnc27 := NB900_899.out; obtain ⟨hcz28_0, hcz28_1⟩ := cz2 BK899.out; have hfz28_0 := blk_frozen BK899.out 0; have hfz28_1 := blk_frozen BK899.out 1; have hnb29 := NB898_900.out; have hnc29 := NB900_898.out; obtain ⟨hcz30_0, hcz30_1⟩ := cz2 BK898.out; have hfz30_0 := blk_frozen BK898.out 0; have hfz30_1 := blk_frozen BK898.out 1) | ((with_reducible refine gate_dst (N := 8) rfl ?_); refine bx (N := 8) (cs := #[.int .i64 0, .int .i64 0]) (t := 24) ?_; intro gb901 hg w31 hbox hb; have BK901 := az hbox; have GW901 := az ((gE hg (qL HB) : w.heap.size ≤ gb901)); have GE901 := GW901; obtain ⟨NB898_901, NB901_898⟩ := nPB BK898 hg; obtain ⟨NB899_901, NB901_899⟩ := nPB BK899 hg; obtain ⟨NB900_901, NB901_900⟩ := nPB BK900 hg; replace BK898 := kBB BK898 hb; replace BK899 := kBB BK899 hb; replace BK900 := kBB BK900 hb; replace HB := bS HB hb; clear hb hbox hg; have hnb32 := NB901_898.out; have hnc32 := NB898_901.out; have hnb33 := NB901_899.out; have hnc33 := NB899_901.out; have hnb34 := NB901_900.out; have hnc34 := NB900_901.out; obtain ⟨hcz35_0, hcz35_1⟩ := cz2 BK901.out; have hfz35_0 := blk_frozen BK901.out 0; have hfz35_1 := blk_frozen BK901.out 1) | ((with_reducible refine gate_callee (f := 100) rfl ?_); refine gl (some 21) Try.func100 #[.agg #[.int .i64 (wrap64 (a1_0 - a0_0)), .int .i64 (wrap64 (a1_1 - a0_1))]] ?_; (with_reducible refine (spec_l2Square.calls (wrap64 (a1_0 - a0_0)) (wrap64 (a1_1 - a0_1)) t902 _ A4.out).mono ?_); rintro e w36 ⟨rfl, hb⟩; refine ⟨_, rfl, ?_⟩; replace BK898 := kBF BK898 hb; replace BK899 := kBF BK899 hb; replace BK900 := kBF BK900 hb; replace BK901 := kBP (o' := .cells #[.int .i64 (wrap64 (a1_0 - a0_0)), .int .i64 (wrap64 (a1_1 - a0_1))] 24 (0, 0)) BK901 hb; replace HB := bS HB hb; clear hb))
  replace BK898 := az (blk_drew BK898.out)
  replace BK899 := az (blk_drew BK899.out)
  replace BK900 := az (blk_drew BK900.out)
  replace BK901 := az (blk_drew BK901.out)
  replace HB := az (below_drew1 HB.out)
  refine start_ (n := 9) (S := fun w' => w'.cell? ⟨gb901, 0, none⟩ = some (.int .i64 (wrap64 (a1_0 - a0_0))) ∧ w'.cell? ⟨gb901, 1, none⟩ = some (.int .i64 (wrap64 (a1_1 - a0_1)))) (ds := []) #[false, false, false, false, false, false, false, false, false] (by kernel_rfl) rfl rfl ⟨bc BK901 0, bc BK901 1⟩ (fun hHeld => ?_); refine with_tabW spec_l5Rounds.tab4 spec_l5Rounds.bits4 (fun HT_ HW_ => ?_)
  generalize w36.drew = w37 at BK898 BK899 BK900 BK901 HB hHeld ⊢
  refine pu 2 (some 29) (fl 9 4) HT_ ?_
  refine tk2 0 (some 27) (fl 9 5) HT_ HW_ hHeld ?_
  refine tk2 3 (some 30) (fl 9 13) HT_ HW_ hHeld ?_
  refine on 1 (some 28) (fl 9 15) HT_ (fun K hK => ?_)
  refine go1 Try.func101 #[.agg #[.int .i64 (wrap64 (a1_0 - a0_0)), .int .i64 (wrap64 (a1_1 - a0_1))]] ?_
  with_reducible refine (spec_VecUnit.calls k (wrap64 (a1_0 - a0_0)) (wrap64 (a1_1 - a0_1)) t903 t904 _ A21.out).mono ?_
  rintro e w38 ⟨rfl, hb⟩
  refine ⟨_, rfl, ?_⟩
  replace BK898 := kBB BK898 hb
  replace BK899 := kBB BK899 hb
  replace BK900 := kBB BK900 hb
  replace BK901 := kBB BK901 hb
  replace HB := bS HB hb
  clear hb
  refine hK.out _ _ ⟨bc BK901 0, bc BK901 1⟩ (fun hHeld => ?_)
  clear hK K
  refine nm (some 28) ?_
  refine on 4 (some 31) (fl 9 31) HT_ (fun K hK => ?_)
  refine go1 Try.func102 #[.agg #[.int .i64 (wrap64 (a1_0 - a0_0)), .int .i64 (wrap64 (a1_1 - a0_1))]] ?_
  with_reducible refine (spec_VecLen.calls k (wrap64 (a1_0 - a0_0)) (wrap64 (a1_1 - a0_1)) t905 _ A22.out).mono ?_
  rintro e w39 ⟨rfl, hb⟩
  refine ⟨_, rfl, ?_⟩
  replace BK898 := kBB BK898 hb
  replace BK899 := kBB BK899 hb
  replace BK900 := kBB BK900 hb
  replace BK901 := kBB BK901 hb
  replace HB := bS HB hb
  clear hb
  refine hK.out _ _ ⟨bc BK901 0, bc BK901 1⟩ (fun hHeld => ?_)
  clear hK K
  refine nm (some 31) ?_
  refine pu 5 (some 32) (fl 9 63) HT_ ?_
  refine pu 6 (some 33) (fl 9 127) HT_ ?_
  refine on 7 (none) (fl 9 255) HT_ (fun K hK => ?_)
  have hs40 : w39.cell? ⟨gb900, 0, none⟩ = some (.int .i64 0) := bc BK900 0
  have hfs40 := blk_frozen BK900.out 0
  have hns40_0 := NB898_900.out
  have hns40_1 := NB899_900.out
  have hns40_3 := NB901_900.out
  have hms40_0 := NB900_898.out
  have hms40_1 := NB900_899.out
  have hms40_3 := NB900_901.out
  have hs41 : w39.cell? ⟨gb900, 1, none⟩ = some (.int .i64 0) := bc BK900 1
  have hfs41 := blk_frozen BK900.out 1
  have hns41_0 := NB898_900.out
  have hns41_1 := NB899_900.out
  have hns41_3 := NB901_900.out
  have hms41_0 := NB900_898.out
  have hms41_1 := NB900_899.out
  have hms41_3 := NB900_901.out
  have hs42 : w39.cell? ⟨gb900, 2, none⟩ = some (.int .i64 0) := bc BK900 2
  have hfs42 := blk_frozen BK900.out 2
  have hns42_0 := NB898_900.out
  have hns42_1 := NB899_900.out
  have hns42_3 := NB901_900.out
  have hms42_0 := NB900_898.out
  have hms42_1 := NB900_899.out
  have hms42_3 := NB900_901.out
  refine skip_ (w1 := ?_) ?hw ?hn ?_ ?_; (case hw => unfold Region.wanted; rfl); (case hn => rfl)
  rotate_left
  · go_simp
    rfl
  refine hK.out _ _ ⟨(cf NB901_900 ((cf NB901_900 ((cf NB901_900 (hHeld.1)))))), (cf NB901_900 ((cf NB901_900 ((cf NB901_900 (hHeld.2))))))⟩ (fun hHeld => ?_)
  clear hK K
  refine pu 8 (some 7) (fl 9 511) HT_ ?_
  refine done_ (done_of HT_.out (by kernel_rfl)) ?_
  try go_wp2
  refine bodyPost_ret (results_ct rfl _ _ gb900 56 #[.int .i64 t903, .int .i64 t904, .int .i64 (wrap64 (a2 - t905))] (0, 0) _ rfl (qP BK900) Try.underlying56 rfl (by kernel_rfl)) rfl ?_
  exact ⟨qE, qL HB⟩

/-! ### spec_l3Meets: function 103 -/
def spec_l3Meets.f (a0_0 : Int) (a0_1 : Int) (a0_2 : Int) (a0_3 : Int) (a1_0 : Int) (a1_1 : Int) (a1_2 : Int) (a1_3 : Int) : Option (Bool) := if a0_0 ≤ a1_2 then (if a1_0 ≤ a0_2 then (if a0_1 ≤ a1_3 then (some (decide (a1_1 ≤ a0_3))) else (some false)) else (some false)) else (some false)
set_option maxHeartbeats 8000000 in
set_option maxRecDepth 100000 in
theorem spec_l3Meets.calls (a0_0 : Int) (a0_1 : Int) (a0_2 : Int) (a0_3 : Int) (a1_0 : Int) (a1_1 : Int) (a1_2 : Int) (a1_3 : Int) (r : Bool) (w : World) (h : spec_l3Meets.f a0_0 a0_1 a0_2 a0_3 a1_0 a1_1 a1_2 a1_3 = some r) :
    Calls Try.prog 103 #[.agg #[.int .i64 a0_0, .int .i64 a0_1, .int .i64 a0_2, .int .i64 a0_3], .agg #[.int .i64 a1_0, .int .i64 a1_1, .int .i64 a1_2, .int .i64 a1_3]] w fun e w' => e = .returned (.bool r) ∧ Below w.heap.size w w' := by
  have hu26 := Try.underlying26
  have HB := az (Below.refl w.heap.size w)
  have H : (if a0_0 ≤ a1_2 then (if a1_0 ≤ a0_2 then (if a0_1 ≤ a1_3 then (some (decide (a1_1 ≤ a0_3))) else (some false)) else (some false)) else (some false)) = some r := h
  clear h
  by_cases c3 : a0_0 ≤ a1_2
  · rw [if_pos c3] at H
    have c3b0 : decide (a0_0 ≤ a1_2) = true := decide_eq_true c3
    clear c3
    by_cases c4 : a1_0 ≤ a0_2
    · rw [if_pos c4] at H
      have c4b0 : decide (a1_0 ≤ a0_2) = true := decide_eq_true c4
      clear c4
      by_cases c5 : a0_1 ≤ a1_3
      · rw [if_pos c5] at H
        have c5b0 : decide (a0_1 ≤ a1_3) = true := decide_eq_true c5
        clear c5
        obtain rfl := Option.some.inj H
        go_enter Try.func103, Try.ntmps103
        go_wp2_with (first | ((with_reducible refine gate_dst (N := 2) rfl ?_); refine bx (N := 2) (cs := #[.int .i64 a0_0, .int .i64 a0_1, .int .i64 a0_2, .int .i64 a0_3]) (t := 26) ?_; intro gb906 hg w6 hbox hb; have BK906 := az hbox; have GW906 := az ((gE hg (qL HB) : w.heap.size ≤ gb906)); have GE906 := GW906; replace HB := bS HB hb; clear hb hbox hg) | ((with_reducible refine gate_dst (N := 3) rfl ?_); refine bx (N := 3) (cs := #[.int .i64 a1_0, .int .i64 a1_1, .int .i64 a1_2, .int .i64 a1_3]) (t := 26) ?_; intro gb907 hg w7 hbox hb; have BK907 := az hbox; have GW907 := az ((gE hg (qL HB) : w.heap.size ≤ gb907)); have GE907 := GW907; obtain ⟨NB906_907, NB907_906⟩ := nPB BK906 hg; replace BK906 := kBB BK906 hb; replace HB := bS HB hb; clear hb hbox hg; have hnb8 := NB906_907.out; have hnc8 := NB907_906.out; obtain ⟨hcz9_0, hcz9_1, hcz9_2, hcz9_3⟩ := cz4 BK906.out; obtain ⟨hfz9_0, hfz9_1, hfz9_2, hfz9_3⟩ := fz4 BK906.out; obtain ⟨hcz10_0, hcz10_1, hcz10_2, hcz10_3⟩ := cz4 BK907.out; obtain ⟨hfz10_0, hfz10_1, hfz10_2, hfz10_3⟩ := fz4 BK907.out))
        go_ret
        exact ⟨qE, qL HB⟩
      rw [if_neg c5] at H
      have c5b0 : decide (a0_1 ≤ a1_3) = false := decide_eq_false c5
      clear c5
      obtain rfl := Option.some.inj H
      go_enter Try.func103, Try.ntmps103
      go_wp2_with (first | ((with_reducible refine gate_dst (N := 2) rfl ?_); refine bx (N := 2) (cs := #[.int .i64 a0_0, .int .i64 a0_1, .int .i64 a0_2, .int .i64 a0_3]) (t := 26) ?_; intro gb906 hg w11 hbox hb; have BK906 := az hbox; have GW906 := az ((gE hg (qL HB) : w.heap.size ≤ gb906)); have GE906 := GW906; replace HB := bS HB hb; clear hb hbox hg) | ((with_reducible refine gate_dst (N := 3) rfl ?_); refine bx (N := 3) (cs := #[.int .i64 a1_0, .int .i64 a1_1, .int .i64 a1_2, .int .i64 a1_3]) (t := 26) ?_; intro gb907 hg w12 hbox hb; have BK907 := az hbox; have GW907 := az ((gE hg (qL HB) : w.heap.size ≤ gb907)); have GE907 := GW907; obtain ⟨NB906_907, NB907_906⟩ := nPB BK906 hg; replace BK906 := kBB BK906 hb; replace HB := bS HB hb; clear hb hbox hg; have hnb13 := NB906_907.out; have hnc13 := NB907_906.out; obtain ⟨hcz14_0, hcz14_1, hcz14_2, hcz14_3⟩ := cz4 BK906.out; obtain ⟨hfz14_0, hfz14_1, hfz14_2, hfz14_3⟩ := fz4 BK906.out; obtain ⟨hcz15_0, hcz15_1, hcz15_2, hcz15_3⟩ := cz4 BK907.out; obtain ⟨hfz15_0, hfz15_1, hfz15_2, hfz15_3⟩ := fz4 BK907.out))
      go_ret
      exact ⟨qE, qL HB⟩
    rw [if_neg c4] at H
    have c4b0 : decide (a1_0 ≤ a0_2) = false := decide_eq_false c4
    clear c4
    obtain rfl := Option.some.inj H
    go_enter Try.func103, Try.ntmps103
    go_wp2_with (first | ((with_reducible refine gate_dst (N := 2) rfl ?_); refine bx (N := 2) (cs := #[.int .i64 a0_0, .int .i64 a0_1, .int .i64 a0_2, .int .i64 a0_3]) (t := 26) ?_; intro gb906 hg w16 hbox hb; have BK906 := az hbox; have GW906 := az ((gE hg (qL HB) : w.heap.size ≤ gb906)); have GE906 := GW906; replace HB := bS HB hb; clear hb hbox hg) | ((with_reducible refine gate_dst (N := 3) rfl ?_); refine bx (N := 3) (cs := #[.int .i64 a1_0, .int .i64 a1_1, .int .i64 a1_2, .int .i64 a1_3]) (t := 26) ?_; intro gb907 hg w17 hbox hb; have BK907 := az hbox; have GW907 := az ((gE hg (qL HB) : w.heap.size ≤ gb907)); have GE907 := GW907; obtain ⟨NB906_907, NB907_906⟩ := nPB BK906 hg; replace BK906 := kBB BK906 hb; replace HB := bS HB hb; clear hb hbox hg; have hnb18 := NB906_907.out; have hnc18 := NB907_906.out; obtain ⟨hcz19_0, hcz19_1, hcz19_2, hcz19_3⟩ := cz4 BK906.out; obtain ⟨hfz19_0, hfz19_1, hfz19_2, hfz19_3⟩ := fz4 BK906.out; obtain ⟨hcz20_0, hcz20_1, hcz20_2, hcz20_3⟩ := cz4 BK907.out; obtain ⟨hfz20_0, hfz20_1, hfz20_2, hfz20_3⟩ := fz4 BK907.out))
    go_ret
    exact ⟨qE, qL HB⟩
  rw [if_neg c3] at H
  have c3b0 : decide (a0_0 ≤ a1_2) = false := decide_eq_false c3
  clear c3
  obtain rfl := Option.some.inj H
  go_enter Try.func103, Try.ntmps103
  go_wp2_with (first | ((with_reducible refine gate_dst (N := 2) rfl ?_); refine bx (N := 2) (cs := #[.int .i64 a0_0, .int .i64 a0_1, .int .i64 a0_2, .int .i64 a0_3]) (t := 26) ?_; intro gb906 hg w21 hbox hb; have BK906 := az hbox; have GW906 := az ((gE hg (qL HB) : w.heap.size ≤ gb906)); have GE906 := GW906; replace HB := bS HB hb; clear hb hbox hg) | ((with_reducible refine gate_dst (N := 3) rfl ?_); refine bx (N := 3) (cs := #[.int .i64 a1_0, .int .i64 a1_1, .int .i64 a1_2, .int .i64 a1_3]) (t := 26) ?_; intro gb907 hg w22 hbox hb; have BK907 := az hbox; have GW907 := az ((gE hg (qL HB) : w.heap.size ≤ gb907)); have GE907 := GW907; obtain ⟨NB906_907, NB907_906⟩ := nPB BK906 hg; replace BK906 := kBB BK906 hb; replace HB := bS HB hb; clear hb hbox hg; have hnb23 := NB906_907.out; have hnc23 := NB907_906.out; obtain ⟨hcz24_0, hcz24_1, hcz24_2, hcz24_3⟩ := cz4 BK906.out; obtain ⟨hfz24_0, hfz24_1, hfz24_2, hfz24_3⟩ := fz4 BK906.out; obtain ⟨hcz25_0, hcz25_1, hcz25_2, hcz25_3⟩ := cz4 BK907.out; obtain ⟨hfz25_0, hfz25_1, hfz25_2, hfz25_3⟩ := fz4 BK907.out))
  go_ret
  exact ⟨qE, qL HB⟩
end Go.Proofs.Ytihajbjkjclmoaa.PBig
