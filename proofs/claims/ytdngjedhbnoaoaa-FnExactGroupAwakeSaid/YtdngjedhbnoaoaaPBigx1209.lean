/- What these functions compute, each walked once: spec_l1Root, spec_VecLen, spec_VecUnit, spec_l5Rounds, spec_l3Meets, spec_l5Boxes, spec_l3Bounds, spec_l1In, spec_l3Point, spec_l3More; for all arguments and worlds, under the conditions that each theorem names. -/
import Derived.Test.YtdngjedhbnoaoaaSq
import Derived.Test.YtdngjedhbnoaoaaPBigx1208
namespace Go.Proofs.Ytdngjedhbnoaoaa.PBig
open Go.RowKit Go.Proofs.YtdngjedhbnoaoaaW.PrintWords Go.Proofs.YtdngjedhbnoaoaaW.PrintLast Go.Proofs.YtdngjedhbnoaoaaW.PrintMore
attribute [local go_sem] max2_int min2_int max_two min_two max_three min_three max_four min_four   -- for this text's walks alone
set_option linter.unusedVariables false
set_option linter.unusedSimpArgs false

/-! ### spec_l1Root: function 136 -/
mutual
def spec_l1Root.l0 : Nat → Int → Int → Int → Option (Int)
  | 0, _, _, _ => none
  | k + 1, x0, x3, x4 => if (wrap64 (x4 * x4)) ≤ x0 then (spec_l1Root.l0 k x0 x3 (wrap64 (2 * x4))) else (spec_l1Root.l1 k x0 x3 x4)
def spec_l1Root.l1 : Nat → Int → Int → Int → Option (Int)
  | 0, _, _, _ => none
  | k + 1, x0, x3, x4 => if (wrap64 (x4 - x3)) > 1 then (if (wrap64 ((wrap64 (Int.tdiv (wrap64 (x3 + x4)) 2)) * (wrap64 (Int.tdiv (wrap64 (x3 + x4)) 2)))) ≤ x0 then (spec_l1Root.l1 k x0 (wrap64 (Int.tdiv (wrap64 (x3 + x4)) 2)) x4) else (spec_l1Root.l1 k x0 x3 (wrap64 (Int.tdiv (wrap64 (x3 + x4)) 2)))) else (some x3)
end
def spec_l1Root.f (k : Nat) (a0 : Int) : Option (Int) := spec_l1Root.l0 k a0 0 1
theorem spec_l1Root.mono_l : ∀ k, (∀ y0 y1 y2, LeO (spec_l1Root.l0 k y0 y1 y2) (spec_l1Root.l0 (k + 1) y0 y1 y2)) ∧ (∀ y0 y1 y2, LeO (spec_l1Root.l1 k y0 y1 y2) (spec_l1Root.l1 (k + 1) y0 y1 y2))
  | 0 => ⟨fun _ _ _ r h => by simp [spec_l1Root.l0] at h, fun _ _ _ r h => by simp [spec_l1Root.l1] at h⟩
  | k + 1 => by
    obtain ⟨ih0, ih1⟩ := spec_l1Root.mono_l k
    refine ⟨?_, ?_⟩
    · intro y0 y1 y2
      unfold spec_l1Root.l0
      repeat' first
      | (with_reducible exact ih0 _ _ _)
      | (with_reducible exact ih1 _ _ _)
      | (with_reducible exact LeO.refl _)
      | (with_reducible exact LeO.none _)
      | (with_reducible refine LeO.ite ?_ ?_)
      | (with_reducible refine LeO.bind ?_ (fun _ => ?_))
    · intro y0 y1 y2
      unfold spec_l1Root.l1
      repeat' first
      | (with_reducible exact ih0 _ _ _)
      | (with_reducible exact ih1 _ _ _)
      | (with_reducible exact LeO.refl _)
      | (with_reducible exact LeO.none _)
      | (with_reducible refine LeO.ite ?_ ?_)
      | (with_reducible refine LeO.bind ?_ (fun _ => ?_))
theorem spec_l1Root.mono : ∀ a0 k, LeO (spec_l1Root.f k a0) (spec_l1Root.f (k + 1) a0) := by
  intro a0 k
  obtain ⟨ih0, ih1⟩ := spec_l1Root.mono_l k
  unfold spec_l1Root.f
  repeat' first
      | (with_reducible exact ih0 _ _ _)
      | (with_reducible exact ih1 _ _ _)
      | (with_reducible exact LeO.refl _)
      | (with_reducible exact LeO.none _)
      | (with_reducible refine LeO.ite ?_ ?_)
      | (with_reducible refine LeO.bind ?_ (fun _ => ?_))
set_option maxHeartbeats 8000000 in
set_option maxRecDepth 100000 in
theorem spec_l1Root.calls (k : Nat) (a0 : Int) (r : Int) (w : World) (h : spec_l1Root.f k a0 = some r) :
    Calls Try.prog 136 #[.int .i64 a0] w fun e w' => e = .returned (.int .i64 r) ∧ Drawn0 w w' := by
  have H : (spec_l1Root.l0 k a0 0 1) = some r := h; clear h; have H' := az H; clear H; go_enter Try.func136, Try.ntmps136; go_wp2
  go_loopg [4] k (fun kq v4 w' => ∃ (a3 : Int), v4 = .int .i64 a3 ∧ Aside0 (spec_l1Root.l0 kq a0 0 a3 = some r) ∧ Aside0 (kq ≤ k) ∧ Drawn0 w w')
  case atStart => exact ⟨(1), qG, H', ⟨Nat.le_refl _⟩, by repeat (first | exact Drawn0.refl _ | apply Drawn0.step)⟩
  case round =>
    clear H'
    try clear c1
    obtain ⟨a3, rfl, HA, a4, ⟨m1, rfl⟩⟩ := hrel
    cases gk with
    | zero => exact absurd HA.out (by simp [spec_l1Root.l0])
    | succ k1 => ?_
    have H := HA.out; clear HA; simp only [spec_l1Root.l0] at H; by_cases c2 : (wrap64 (a3 * a3)) ≤ a0
    · rw [if_pos c2] at H; have a6 : decide ((wrap64 (a3 * a3)) ≤ a0) = true := decide_eq_true c2; clear c2; have H' := az H; clear H; go_wp2
      go_roundg k1
      case measure => have := a4.out; omega
      case rel => exact ⟨(wrap64 (2 * a3)), qG, H', ⟨by have := a4.out; omega⟩, by repeat (first | exact Drawn0.refl _ | apply Drawn0.step)⟩
    rw [if_neg c2] at H; have a6 : decide ((wrap64 (a3 * a3)) ≤ a0) = false := decide_eq_false c2; clear c2; have H' := az H; clear H; go_wp2
    go_loopg [3, 4] k1 (fun kq v3 v4 w' => ∃ (a1 : Int) (a2 : Int), v3 = .int .i64 a1 ∧ v4 = .int .i64 a2 ∧ Aside0 (spec_l1Root.l1 kq a0 a1 a2 = some r) ∧ Aside0 (kq ≤ k1) ∧ Drawn0 w w')
    case atStart => exact ⟨(0), (a3), qG, qG, H', ⟨Nat.le_refl _⟩, by repeat (first | exact Drawn0.refl _ | apply Drawn0.step)⟩
    case round =>
      clear H'; (try clear c1); (try clear c2); (try clear a6); obtain ⟨a1, a2, rfl, rfl, HA, a5, ⟨m2, rfl⟩⟩ := hrel
      cases gk with
      | zero => exact absurd HA.out (by simp [spec_l1Root.l1])
      | succ k2 => ?_
      have H := HA.out; clear HA; simp only [spec_l1Root.l1] at H; by_cases c3 : (wrap64 (a2 - a1)) > 1
      · rw [if_pos c3] at H; have a7 : decide (1 < (wrap64 (a2 - a1))) = true := decide_eq_true c3; clear c3; by_cases c4 : (wrap64 ((wrap64 (Int.tdiv (wrap64 (a1 + a2)) 2)) * (wrap64 (Int.tdiv (wrap64 (a1 + a2)) 2)))) ≤ a0
        · rw [if_pos c4] at H; have a8 : decide ((wrap64 ((wrap64 (Int.tdiv (wrap64 (a1 + a2)) 2)) * (wrap64 (Int.tdiv (wrap64 (a1 + a2)) 2)))) ≤ a0) = true := decide_eq_true c4; clear c4; have H' := az H; clear H; go_wp2
          go_roundg k2
          case measure => have := a4.out; have := a5.out; omega
          case rel => exact ⟨(wrap64 (Int.tdiv (wrap64 (a1 + a2)) 2)), (a2), qG, qG, H', ⟨by have := a4.out; have := a5.out; omega⟩, by repeat (first | exact Drawn0.refl _ | apply Drawn0.step)⟩
        rw [if_neg c4] at H; have a8 : decide ((wrap64 ((wrap64 (Int.tdiv (wrap64 (a1 + a2)) 2)) * (wrap64 (Int.tdiv (wrap64 (a1 + a2)) 2)))) ≤ a0) = false := decide_eq_false c4; clear c4; have H' := az H; clear H; go_wp2
        go_roundg k2
        case measure => have := a4.out; have := a5.out; omega
        case rel => exact ⟨(a1), (wrap64 (Int.tdiv (wrap64 (a1 + a2)) 2)), qG, qG, H', ⟨by have := a4.out; have := a5.out; omega⟩, by repeat (first | exact Drawn0.refl _ | apply Drawn0.step)⟩
      rw [if_neg c3] at H; have a7 : decide (1 < (wrap64 (a2 - a1))) = false := decide_eq_false c3; clear c3; obtain rfl := Option.some.inj H; go_wp2
      go_ret
      exact ⟨by first | rfl | (simp; done) | (simp [*]; done), by repeat (first | exact Drawn0.refl _ | apply Drawn0.step)⟩

/-! ### spec_VecLen: function 124 -/
def spec_VecLen.f (k : Nat) (a3 : Int) (a4 : Int) : Option (Int) := (spec_l2Clamp.f a3 a4).bind fun bt218 => ((spec_l2Square.f bt218.1 bt218.2).bind fun a5 => ((spec_l1Root.f k a5).bind fun a6 => ((spec_FixClamp.f a6).bind fun a7 => (some a7))))
theorem spec_VecLen.mono : ∀ a0 a1 k, LeO (spec_VecLen.f k a0 a1) (spec_VecLen.f (k + 1) a0 a1) := by
  intro a0 a1 k
  unfold spec_VecLen.f
  repeat' first
      | (with_reducible exact spec_l1Root.mono _ _)
      | (with_reducible exact LeO.refl _)
      | (with_reducible exact LeO.none _)
      | (with_reducible refine LeO.ite ?_ ?_)
      | (with_reducible refine LeO.bind ?_ (fun _ => ?_))
set_option maxHeartbeats 8000000 in
set_option maxRecDepth 100000 in
theorem spec_VecLen.calls (k : Nat) (a3 : Int) (a4 : Int) (r : Int) (w : World) (h : spec_VecLen.f k a3 a4 = some r) :
    Calls Try.prog 124 #[.agg #[.int .i64 a3, .int .i64 a4]] w fun e w' => e = .returned (.int .i64 r) ∧ Below w.heap.size w w' := by
  have hu33 := Try.underlying33; have HB := az (Below.refl w.heap.size w); have H : ((spec_l2Clamp.f a3 a4).bind fun bt218 => ((spec_l2Square.f bt218.1 bt218.2).bind fun a5 => ((spec_l1Root.f k a5).bind fun a6 => ((spec_FixClamp.f a6).bind fun a7 => (some a7))))) = some r := h; clear h; replace H := qH H; obtain ⟨⟨a8, a9⟩, A2, H⟩ := H
  try dsimp only at H
  replace H := qH H; obtain ⟨a5, A3, H⟩ := H
  try dsimp only at H
  replace H := qH H; obtain ⟨a6, A4, H⟩ := H
  try dsimp only at H
  replace H := qH H; obtain ⟨a7, A5, H⟩ := H
  try dsimp only at H
  obtain rfl := Option.some.inj H; go_enter Try.func124, Try.ntmps124; go_wp2_with (first | ((with_reducible refine gate_dst (N := 1) rfl ?_); refine bx (N := 1) (cs := #[.int .i64 a3, .int .i64 a4]) (t := 33) ?_; intro aA hg w6 hbox hb; have a2 := az hbox; have aB := az ((gE hg (qL HB) : w.heap.size ≤ aA)); have aG := aB; replace HB := bS HB hb; clear hb hbox hg; obtain ⟨aC, aD⟩ := cz2 a2.out; have aE := blk_frozen a2.out 0; have aF := blk_frozen a2.out 1) | ((with_reducible refine gate_callee (f := 134) rfl ?_); refine gl (some 4) Try.func134 #[.agg #[.int .i64 a3, .int .i64 a4]] ?_; (with_reducible refine (spec_l2Clamp.calls a3 a4 a8 a9 _ A2.out).mono ?_); rintro e w8 ⟨rfl, hb⟩; refine ⟨_, rfl, ?_⟩; replace a2 := kBB a2 hb; replace HB := bS HB hb; clear hb) | ((with_reducible refine gate_callee (f := 122) rfl ?_); refine gl (some 5) Try.func122 #[.agg #[.int .i64 a8, .int .i64 a9]] ?_; (with_reducible refine (spec_l2Square.calls a8 a9 a5 _ A3.out).mono ?_); rintro e w9 ⟨rfl, hb⟩; refine ⟨_, rfl, ?_⟩; replace a2 := kBB a2 hb; replace HB := bS HB hb; clear hb) | ((with_reducible refine gate_callee (f := 136) rfl ?_); refine gl (some 6) Try.func136 #[.int .i64 a5] ?_; (with_reducible refine (spec_l1Root.calls k a5 a6 _ A4.out).mono ?_); rintro e w' ⟨rfl, ⟨nd, rfl⟩⟩; refine ⟨_, rfl, ?_⟩) | ((with_reducible refine gate_callee (f := 135) rfl ?_); refine gl (some 7) Try.func135 #[.int .i64 a6] ?_; (with_reducible refine (spec_FixClamp.calls a6 a7 _ A5.out).mono ?_); rintro e w' ⟨rfl, ⟨nd, rfl⟩⟩; refine ⟨_, rfl, ?_⟩))
  go_ret
  exact ⟨qE, qL HB⟩

/-! ### spec_VecUnit: function 123 -/
def spec_VecUnit.f (k : Nat) (a7 : Int) (a8 : Int) : Option (Int × Int) := (spec_l2Clamp.f a7 a8).bind fun bt225 => ((spec_VecLen.f k bt225.1 bt225.2).bind fun a5 => (if a5 = 0 then (some (0, 256)) else (some (wrap64 (Int.tdiv (wrap64 (bt225.1 * 256)) a5), wrap64 (Int.tdiv (wrap64 (bt225.2 * 256)) a5)))))
theorem spec_VecUnit.mono : ∀ a0 a1 k, LeO (spec_VecUnit.f k a0 a1) (spec_VecUnit.f (k + 1) a0 a1) := by
  intro a0 a1 k
  unfold spec_VecUnit.f
  repeat' first
      | (with_reducible exact spec_VecLen.mono _ _ _)
      | (with_reducible exact LeO.refl _)
      | (with_reducible exact LeO.none _)
      | (with_reducible refine LeO.ite ?_ ?_)
      | (with_reducible refine LeO.bind ?_ (fun _ => ?_))
def spec_VecUnit.T5 : Bool × List (List Nat × List Nat) := (true, [([], []), ([0], [0]), ([1], [1]), ([], []), ([2, 3], [2, 3]), ([], []), ([5], [5]), ([6], [6]), ([], []), ([7, 8], [7, 8]), ([4, 9], [4, 9]), ([10, 0, 1, 2, 3, 4, 5, 6, 7, 8, 9, 10], [10])])
def spec_VecUnit.B5 : List Nat := [0, 1, 3, 0, 15, 0, 32, 96, 0, 480, 1023, 2047]
theorem spec_VecUnit.tab5 : rtab .any (opsOf Try.f123 5) = spec_VecUnit.T5 := by kernel_rfl
theorem spec_VecUnit.bits5 : waitsOk spec_VecUnit.T5.2 spec_VecUnit.B5 = true := by kernel_rfl
set_option maxHeartbeats 8000000 in
set_option maxRecDepth 100000 in
theorem spec_VecUnit.calls (k : Nat) (a7 : Int) (a8 : Int) (r1 : Int) (r2 : Int) (w : World) (h : spec_VecUnit.f k a7 a8 = some (r1, r2)) :
    Calls Try.prog 123 #[.agg #[.int .i64 a7, .int .i64 a8]] w fun e w' => e = .returned (.agg #[.int .i64 r1, .int .i64 r2]) ∧ Below w.heap.size w w' := by
  have hu33 := Try.underlying33; have HB := az (Below.refl w.heap.size w); have H : ((spec_l2Clamp.f a7 a8).bind fun bt225 => ((spec_VecLen.f k bt225.1 bt225.2).bind fun a5 => (if a5 = 0 then (some (0, 256)) else (some (wrap64 (Int.tdiv (wrap64 (bt225.1 * 256)) a5), wrap64 (Int.tdiv (wrap64 (bt225.2 * 256)) a5)))))) = some (r1, r2) := h; clear h; replace H := qH H; obtain ⟨⟨a9, aA⟩, A2, H⟩ := H
  try dsimp only at H
  replace H := qH H; obtain ⟨a5, A3, H⟩ := H
  try dsimp only at H
  by_cases c4 : a5 = 0
  · rw [if_pos c4] at H; have aI : (a5 == 0) = true := beq_iff_eq.mpr c4; have aJ : (a5 != 0) = false := bne_eq_false_iff_eq.mpr c4; clear c4; simp only [Option.some.injEq, Prod.mk.injEq] at H; obtain ⟨rfl, rfl⟩ := H; go_enter Try.func123, Try.ntmps123; go_wp2_with (first | ((with_reducible refine gate_dst (N := 1) rfl ?_); refine bx (N := 1) (cs := #[.int .i64 a7, .int .i64 a8]) (t := 33) ?_; intro aC hg w5 hbox hb; have a2 := az hbox; have aD := az ((gE hg (qL HB) : w.heap.size ≤ aC)); have aF := aD; replace HB := bS HB hb; clear hb hbox hg) | ((with_reducible refine gate_dst (N := 2) rfl ?_); refine bz2 (N := 2) (t := 33) ?_; intro aB hg w6 hbox hb; have a3 := az hbox; have aE := az ((gE hg (qL HB) : w.heap.size ≤ aB)); have aG := aE; obtain ⟨a4, a6⟩ := nPB a2 hg; replace a2 := kBB a2 hb; replace HB := bS HB hb; clear hb hbox hg; have bD := a4.out; have bE := a6.out; obtain ⟨b4, b5⟩ := cz2 a2.out; have b6 := blk_frozen a2.out 0; have b7 := blk_frozen a2.out 1) | ((with_reducible refine gate_callee (f := 134) rfl ?_); refine gl (some 5) Try.func134 #[.agg #[.int .i64 a7, .int .i64 a8]] ?_; (with_reducible refine (spec_l2Clamp.calls a7 a8 a9 aA _ A2.out).mono ?_); rintro e w9 ⟨rfl, hb⟩; refine ⟨_, rfl, ?_⟩; replace a2 := kBB a2 hb; replace a3 := kBB a3 hb; replace HB := bS HB hb; clear hb; obtain ⟨aK, aL⟩ := cz2 a2.out; have aM := blk_frozen a2.out 0; have aN := blk_frozen a2.out 1) | ((with_reducible refine gate_callee (f := 124) rfl ?_); refine gl (some 7) Try.func124 #[.agg #[.int .i64 a9, .int .i64 aA]] ?_; (with_reducible refine (spec_VecLen.calls k a9 aA a5 _ A3.out).mono ?_); rintro e bH ⟨rfl, hb⟩; refine ⟨_, rfl, ?_⟩; replace a2 := kBP (o' := .cells #[.int .i64 a9, .int .i64 aA] 33 (0, 0)) a2 hb; replace a3 := kBF a3 hb; replace HB := bS HB hb; clear hb; obtain ⟨aO, aP⟩ := cz2 a3.out; have aQ := blk_frozen a3.out 0; have aR := blk_frozen a3.out 1)); refine bodyPost_ret (results_cell_row rfl _ _ aB 33 #[.int .i64 0, .int .i64 256] (0, 0) _ rfl (qP a3) Try.underlying33 rfl (by kernel_rfl)) rfl ?_; exact ⟨qE, qL HB⟩
  rw [if_neg c4] at H; have aI : (a5 == 0) = false := beq_eq_false_iff_ne.mpr c4; have aJ : (a5 != 0) = true := bne_iff_ne.mpr c4; simp only [Option.some.injEq, Prod.mk.injEq] at H; obtain ⟨rfl, rfl⟩ := H; go_enter Try.func123, Try.ntmps123
  try go_wp2_with (first | ((with_reducible refine gate_dst (N := 1) rfl ?_); refine bx (N := 1) (cs := #[.int .i64 a7, .int .i64 a8]) (t := 33) ?_; intro aC hg bI hbox hb; have a2 := az hbox; have aD := az ((gE hg (qL HB) : w.heap.size ≤ aC)); have aF := aD; replace HB := bS HB hb; clear hb hbox hg) | ((with_reducible refine gate_dst (N := 2) rfl ?_); refine bz2 (N := 2) (t := 33) ?_; intro aB hg bJ hbox hb; have a3 := az hbox; have aE := az ((gE hg (qL HB) : w.heap.size ≤ aB)); have aG := aE; obtain ⟨a4, a6⟩ := nPB a2 hg; replace a2 := kBB a2 hb; replace HB := bS HB hb; clear hb hbox hg; have b9 := a4.out; have bA := a6.out; obtain ⟨aS, aT⟩ := cz2 a2.out; have aU := blk_frozen a2.out 0; have aV := blk_frozen a2.out 1) | ((with_reducible refine gate_callee (f := 134) rfl ?_); refine gl (some 5) Try.func134 #[.agg #[.int .i64 a7, .int .i64 a8]] ?_; (with_reducible refine (spec_l2Clamp.calls a7 a8 a9 aA _ A2.out).mono ?_); rintro e bK ⟨rfl, hb⟩; refine ⟨_, rfl, ?_⟩; replace a2 := kBB a2 hb; replace a3 := kBB a3 hb; replace HB := bS HB hb; clear hb; obtain ⟨aW, aX⟩ := cz2 a2.out; have aY := blk_frozen a2.out 0; have aZ := blk_frozen a2.out 1) | ((with_reducible refine gate_callee (f := 124) rfl ?_); refine gl (some 7) Try.func124 #[.agg #[.int .i64 a9, .int .i64 aA]] ?_; (with_reducible refine (spec_VecLen.calls k a9 aA a5 _ A3.out).mono ?_); rintro e b8 ⟨rfl, hb⟩; refine ⟨_, rfl, ?_⟩; replace a2 := kBP (o' := .cells #[.int .i64 a9, .int .i64 aA] 33 (0, 0)) a2 hb; replace a3 := kBF a3 hb; replace HB := bS HB hb; clear hb))
  replace a2 := az (blk_drew a2.out); replace a3 := az (blk_drew a3.out); replace HB := az (below_drew1 HB.out); refine start_ (n := 12) (S := fun w' => w'.cell? ⟨aC, 0, none⟩ = some (.int .i64 a9) ∧ w'.cell? ⟨aC, 1, none⟩ = some (.int .i64 aA)) (ds := []) #[false, false, false, false, false, false, false, false, false, false, false, false] (by kernel_rfl) rfl rfl ⟨bc a2 0, bc a2 1⟩ (fun hHeld => ?_); refine with_tabW spec_VecUnit.tab5 spec_VecUnit.bits5 (fun HT_ HW_ => ?_); generalize b8.drew = aH at a2 a3 HB hHeld ⊢; refine pu 0 (some 11) (fl 12 1) HT_ ?_; refine pu 3 (some 14) (fl 12 9) HT_ ?_; refine pu 5 (some 16) (fl 12 41) HT_ ?_; refine pu 8 (some 19) (fl 12 297) HT_ ?_; refine tk2 1 (some 12) (fl 12 299) HT_ HW_ hHeld ?_; refine pu 2 (some 13) (fl 12 303) HT_ ?_; refine pu 4 (some 15) (fl 12 319) HT_ ?_; refine tk2 6 (some 17) (fl 12 383) HT_ HW_ hHeld ?_; refine pu 7 (some 18) (fl 12 511) HT_ ?_; refine pu 9 (some 20) (fl 12 1023) HT_ ?_; refine pu 10 (some 21) (fl 12 2047) HT_ ?_; refine on 11 (none) (fl 12 4095) HT_ (fun K hK => ?_); have bF : aH.cell? ⟨aB, 0, none⟩ = some (.int .i64 0) := bc a3 0; have bB := blk_frozen a3.out 0; have b0 := a4.out; have b1 := a6.out; have bG : aH.cell? ⟨aB, 1, none⟩ = some (.int .i64 0) := bc a3 1; have bC := blk_frozen a3.out 1; have b2 := a4.out; have b3 := a6.out; refine skip_ (w1 := ?_) ?hw ?hn ?_ ?_; (case hw => unfold Region.wanted; rfl); (case hn => rfl); rotate_left
  · go_simp
    rfl
  refine hK.out _ _ ⟨(cf a4 ((cf a4 (hHeld.1)))), (cf a4 ((cf a4 (hHeld.2))))⟩ (fun hHeld => ?_); clear hK K; refine done_ (done_of HT_.out (by kernel_rfl)) ?_
  try go_wp2
  refine bodyPost_ret (results_cell_row rfl _ _ aB 33 #[.int .i64 (wrap64 (Int.tdiv (wrap64 (a9 * 256)) a5)), .int .i64 (wrap64 (Int.tdiv (wrap64 (aA * 256)) a5))] (0, 0) _ rfl (qP a3) Try.underlying33 rfl (by kernel_rfl)) rfl ?_; exact ⟨qE, qL HB⟩

/-! ### spec_l5Rounds: function 102 -/
def spec_l5Rounds.f (k : Nat) (aA : Int) (aB : Int) (aC : Int) (aD : Int) (a2 : Int) : Option (Int × Int × Int × Bool) := (spec_l2Square.f (wrap64 (aC - aA)) (wrap64 (aD - aB))).bind fun aK => (if aK > (wrap64 (a2 * a2)) then (some (0, 0, 0, false)) else ((spec_VecUnit.f k (wrap64 (aC - aA)) (wrap64 (aD - aB))).bind fun bt233 => ((spec_VecLen.f k (wrap64 (aC - aA)) (wrap64 (aD - aB))).bind fun aS => (some (bt233.1, bt233.2, wrap64 (a2 - aS), true)))))
theorem spec_l5Rounds.mono : ∀ a0 a1 a2 a3 a4 k, LeO (spec_l5Rounds.f k a0 a1 a2 a3 a4) (spec_l5Rounds.f (k + 1) a0 a1 a2 a3 a4) := by
  intro a0 a1 a2 a3 a4 k
  unfold spec_l5Rounds.f
  repeat' first
      | (with_reducible exact spec_VecLen.mono _ _ _)
      | (with_reducible exact spec_VecUnit.mono _ _ _)
      | (with_reducible exact LeO.refl _)
      | (with_reducible exact LeO.none _)
      | (with_reducible refine LeO.ite ?_ ?_)
      | (with_reducible refine LeO.bind ?_ (fun _ => ?_))
def spec_l5Rounds.T4 : Bool × List (List Nat × List Nat) := (true, [([], []), ([0], [0]), ([], []), ([], []), ([3, 1], [3]), ([2, 4], [2, 4]), ([1, 5], [1, 5]), ([6, 4, 0, 1, 2, 3, 4, 5, 6], [6]), ([7, 0, 1, 2, 3, 4, 5, 6, 7], [])])
def spec_l5Rounds.B4 : List Nat := [0, 1, 0, 0, 11, 31, 63, 127, 255]
theorem spec_l5Rounds.tab4 : rtab .any (opsOf Try.f102 4) = spec_l5Rounds.T4 := by kernel_rfl
theorem spec_l5Rounds.bits4 : waitsOk spec_l5Rounds.T4.2 spec_l5Rounds.B4 = true := by kernel_rfl
set_option maxHeartbeats 8000000 in
set_option maxRecDepth 100000 in
theorem spec_l5Rounds.calls (k : Nat) (aA : Int) (aB : Int) (aC : Int) (aD : Int) (a2 : Int) (r1 : Int) (r2 : Int) (r3 : Int) (r4 : Bool) (w : World) (h : spec_l5Rounds.f k aA aB aC aD a2 = some (r1, r2, r3, r4)) :
    Calls Try.prog 102 #[.agg #[.int .i64 aA, .int .i64 aB], .agg #[.int .i64 aC, .int .i64 aD], .int .i64 a2] w fun e w' => e = .returned (.tuple #[.agg #[.int .i64 r1, .int .i64 r2, .int .i64 r3], .bool r4]) ∧ Below w.heap.size w w' := by
  have hu33 := Try.underlying33; have hu35 := Try.underlying35; have HB := az (Below.refl w.heap.size w); have H : ((spec_l2Square.f (wrap64 (aC - aA)) (wrap64 (aD - aB))).bind fun aK => (if aK > (wrap64 (a2 * a2)) then (some (0, 0, 0, false)) else ((spec_VecUnit.f k (wrap64 (aC - aA)) (wrap64 (aD - aB))).bind fun bt233 => ((spec_VecLen.f k (wrap64 (aC - aA)) (wrap64 (aD - aB))).bind fun aS => (some (bt233.1, bt233.2, wrap64 (a2 - aS), true)))))) = some (r1, r2, r3, r4) := h; clear h; replace H := qH H; obtain ⟨aK, A4, H⟩ := H
  try dsimp only at H
  by_cases c5 : aK > (wrap64 (a2 * a2))
  · rw [if_pos c5] at H; have b6 : decide ((wrap64 (a2 * a2)) < aK) = true := decide_eq_true c5; clear c5; simp only [Option.some.injEq, Prod.mk.injEq] at H; obtain ⟨rfl, rfl, rfl, rfl⟩ := H; go_enter Try.func102, Try.ntmps102; go_wp2_with (first | ((with_reducible refine gate_dst (N := 3) rfl ?_); refine bx (N := 3) (cs := #[.int .i64 aA, .int .i64 aB]) (t := 33) ?_; intro aT hg w6 hbox hb; have a5 := az hbox; have aU := az ((gE hg (qL HB) : w.heap.size ≤ aT)); have b2 := aU; replace HB := bS HB hb; clear hb hbox hg) | ((with_reducible refine gate_dst (N := 4) rfl ?_); refine bx (N := 4) (cs := #[.int .i64 aC, .int .i64 aD]) (t := 33) ?_; intro aV hg w7 hbox hb; have a6 := az hbox; have aW := az ((gE hg (qL HB) : w.heap.size ≤ aV)); have b3 := aW; obtain ⟨aL, aM⟩ := nPB a5 hg; replace a5 := kBB a5 hb; replace HB := bS HB hb; clear hb hbox hg) | ((with_reducible refine gate_dst (N := 6) rfl ?_); refine bz3 (N := 6) (t := 35) ?_; intro aJ hg w8 hbox hb; have a7 := az hbox; have aX := az ((gE hg (qL HB) : w.heap.size ≤ aJ)); have b4 := aX; obtain ⟨aE, aF⟩ := nPB a5 hg; obtain ⟨aG, aH⟩ := nPB a6 hg; replace a5 := kBB a5 hb; replace a6 := kBB a6 hb; replace HB := bS HB hb; clear hb hbox hg; have dN := aM.out; have dO := aL.out; have cO := aG.out; have cP := aH.out; obtain ⟨b7, b8⟩ := cz2 a6.out; have b9 := blk_frozen a6.out 0; have bA := blk_frozen a6.out 1; have cQ := aE.out; have cR := aF.out; obtain ⟨bB, bC⟩ := cz2 a5.out; have bD := blk_frozen a5.out 0; have bE := blk_frozen a5.out 1) | ((with_reducible refine gate_dst (N := 8) rfl ?_); refine bz2 (N := 8) (t := 33) ?_; intro aR hg dS hbox hb; have a8 := az hbox; have aY := az ((gE hg (qL HB) : w.heap.size ≤ aR)); have b5 := aY; obtain ⟨aN, aO⟩ := nPB a5 hg; obtain ⟨aP, aQ⟩ := nPB a6 hg; obtain ⟨aI, a9⟩ := nPB a7 hg; replace a5 := kBB a5 hb; replace a6 := kBB a6 hb; replace a7 := kBB a7 hb; replace HB := bS HB hb; clear hb hbox hg; have cS := aO.out; have cT := aN.out; have cU := aQ.out; have cV := aP.out; have cW := a9.out; have cX := aI.out; obtain ⟨bF, bG⟩ := cz2 a8.out; have bH := blk_frozen a8.out 0; have bI := blk_frozen a8.out 1) | ((with_reducible refine gate_callee (f := 122) rfl ?_); refine gl (some 21) Try.func122 #[.agg #[.int .i64 (wrap64 (aC - aA)), .int .i64 (wrap64 (aD - aB))]] ?_; (with_reducible refine (spec_l2Square.calls (wrap64 (aC - aA)) (wrap64 (aD - aB)) aK _ A4.out).mono ?_); rintro e dT ⟨rfl, hb⟩; refine ⟨_, rfl, ?_⟩; replace a5 := kBF a5 hb; replace a6 := kBF a6 hb; replace a7 := kBF a7 hb; replace a8 := kBP (o' := .cells #[.int .i64 (wrap64 (aC - aA)), .int .i64 (wrap64 (aD - aB))] 33 (0, 0)) a8 hb; replace HB := bS HB hb; clear hb; obtain ⟨bJ, bK, bL⟩ := cz3 a7.out; obtain ⟨bM, bN, bO⟩ := fz3 a7.out))
    refine bodyPost_ret (results_ct rfl _ _ aJ 35 #[.int .i64 0, .int .i64 0, .int .i64 0] (0, 0) _ rfl (qP a7) Try.underlying35 rfl (by kernel_rfl)) rfl ?_; exact ⟨qE, qL HB⟩
  rw [if_neg c5] at H; have b6 : decide ((wrap64 (a2 * a2)) < aK) = false := decide_eq_false c5; clear c5; replace H := qH H; obtain ⟨⟨aZ, b0⟩, cL, H⟩ := H
  try dsimp only at H
  replace H := qH H; obtain ⟨aS, cM, H⟩ := H
  try dsimp only at H
  simp only [Option.some.injEq, Prod.mk.injEq] at H; obtain ⟨rfl, rfl, rfl, rfl⟩ := H; go_enter Try.func102, Try.ntmps102
  try go_wp2_with (first | ((with_reducible refine gate_dst (N := 3) rfl ?_); refine bx (N := 3) (cs := #[.int .i64 aA, .int .i64 aB]) (t := 33) ?_; intro aT hg dU hbox hb; have a5 := az hbox; have aU := az ((gE hg (qL HB) : w.heap.size ≤ aT)); have b2 := aU; replace HB := bS HB hb; clear hb hbox hg) | ((with_reducible refine gate_dst (N := 4) rfl ?_); refine bx (N := 4) (cs := #[.int .i64 aC, .int .i64 aD]) (t := 33) ?_; intro aV hg dV hbox hb; have a6 := az hbox; have aW := az ((gE hg (qL HB) : w.heap.size ≤ aV)); have b3 := aW; obtain ⟨aL, aM⟩ := nPB a5 hg; replace a5 := kBB a5 hb; replace HB := bS HB hb; clear hb hbox hg) | ((with_reducible refine gate_dst (N := 6) rfl ?_); refine bz3 (N := 6) (t := 35) ?_; intro aJ hg dW hbox hb; have a7 := az hbox; have aX := az ((gE hg (qL HB) : w.heap.size ≤ aJ)); have b4 := aX; obtain ⟨aE, aF⟩ := nPB a5 hg; obtain ⟨aG, aH⟩ := nPB a6 hg; replace a5 := kBB a5 hb; replace a6 := kBB a6 hb; replace HB := bS HB hb; clear hb hbox hg; have cY := aM.out; have cZ := aL.out; have dA := aG.out; have dB := aH.out; obtain ⟨bP, bQ⟩ := cz2 a6.out; have bR := blk_frozen a6.out 0; have bT := blk_frozen a6.out 1; have dC := aE.out; have dD := aF.out; obtain ⟨bU, bV⟩ := cz2 a5.out; have bW := blk_frozen a5.out 0; have bX := blk_frozen a5.out 1) | ((with_reducible refine gate_dst (N := 8) rfl ?_); refine bz2 (N := 8) (t := 33) ?_; intro aR hg dX hbox hb; have a8 := az hbox; have aY := az ((gE hg (qL HB) : w.heap.size ≤ aR)); have b5 := aY; obtain ⟨aN, aO⟩ := nPB a5 hg; obtain ⟨aP, aQ⟩ := nPB a6 hg; obtain ⟨aI, a9⟩ := nPB a7 hg; replace a5 := kBB a5 hb; replace a6 := kBB a6 hb; replace a7 := kBB a7 hb; replace HB := bS HB hb; clear hb hbox hg; have dE := aO.out; have dF := aN.out; have dG := aQ.out; have dH := aP.out; have dI := a9.out; have dJ := aI.out; obtain ⟨bY, bZ⟩ := cz2 a8.out; have c0 := blk_frozen a8.out 0; have c1 := blk_frozen a8.out 1) | ((with_reducible refine gate_callee (f := 122) rfl ?_); refine gl (some 21) Try.func122 #[.agg #[.int .i64 (wrap64 (aC - aA)), .int .i64 (wrap64 (aD - aB))]] ?_; (with_reducible refine (spec_l2Square.calls (wrap64 (aC - aA)) (wrap64 (aD - aB)) aK _ A4.out).mono ?_); rintro e cN ⟨rfl, hb⟩; refine ⟨_, rfl, ?_⟩; replace a5 := kBF a5 hb; replace a6 := kBF a6 hb; replace a7 := kBF a7 hb; replace a8 := kBP (o' := .cells #[.int .i64 (wrap64 (aC - aA)), .int .i64 (wrap64 (aD - aB))] 33 (0, 0)) a8 hb; replace HB := bS HB hb; clear hb))
  replace a5 := az (blk_drew a5.out); replace a6 := az (blk_drew a6.out); replace a7 := az (blk_drew a7.out); replace a8 := az (blk_drew a8.out); replace HB := az (below_drew1 HB.out); refine start_ (n := 9) (S := fun w' => w'.cell? ⟨aR, 0, none⟩ = some (.int .i64 (wrap64 (aC - aA))) ∧ w'.cell? ⟨aR, 1, none⟩ = some (.int .i64 (wrap64 (aD - aB)))) (ds := []) #[false, false, false, false, false, false, false, false, false] (by kernel_rfl) rfl rfl ⟨bc a8 0, bc a8 1⟩ (fun hHeld => ?_); refine with_tabW spec_l5Rounds.tab4 spec_l5Rounds.bits4 (fun HT_ HW_ => ?_); generalize cN.drew = dY at a5 a6 a7 a8 HB hHeld ⊢; refine pu 2 (some 29) (fl 9 4) HT_ ?_; refine tk2 0 (some 27) (fl 9 5) HT_ HW_ hHeld ?_; refine tk2 3 (some 30) (fl 9 13) HT_ HW_ hHeld ?_; refine on 1 (some 28) (fl 9 15) HT_ (fun K hK => ?_); refine go1 Try.func123 #[.agg #[.int .i64 (wrap64 (aC - aA)), .int .i64 (wrap64 (aD - aB))]] ?_
  with_reducible refine (spec_VecUnit.calls k (wrap64 (aC - aA)) (wrap64 (aD - aB)) aZ b0 _ cL.out).mono ?_
  rintro e dZ ⟨rfl, hb⟩; refine ⟨_, rfl, ?_⟩; replace a5 := kBB a5 hb; replace a6 := kBB a6 hb; replace a7 := kBB a7 hb; replace a8 := kBB a8 hb; replace HB := bS HB hb; clear hb; refine hK.out _ _ ⟨bc a8 0, bc a8 1⟩ (fun hHeld => ?_); clear hK K; refine nm (some 28) ?_; refine on 4 (some 31) (fl 9 31) HT_ (fun K hK => ?_); refine go1 Try.func124 #[.agg #[.int .i64 (wrap64 (aC - aA)), .int .i64 (wrap64 (aD - aB))]] ?_
  with_reducible refine (spec_VecLen.calls k (wrap64 (aC - aA)) (wrap64 (aD - aB)) aS _ cM.out).mono ?_
  rintro e b1 ⟨rfl, hb⟩; refine ⟨_, rfl, ?_⟩; replace a5 := kBB a5 hb; replace a6 := kBB a6 hb; replace a7 := kBB a7 hb; replace a8 := kBB a8 hb; replace HB := bS HB hb; clear hb; refine hK.out _ _ ⟨bc a8 0, bc a8 1⟩ (fun hHeld => ?_); clear hK K; refine nm (some 31) ?_; refine pu 5 (some 32) (fl 9 63) HT_ ?_; refine pu 6 (some 33) (fl 9 127) HT_ ?_; refine on 7 (none) (fl 9 255) HT_ (fun K hK => ?_); have dP : b1.cell? ⟨aJ, 0, none⟩ = some (.int .i64 0) := bc a7 0; have dK := blk_frozen a7.out 0; have c2 := aE.out; have c3 := aG.out; have c4 := a9.out; have c6 := aF.out; have c7 := aH.out; have c8 := aI.out; have dQ : b1.cell? ⟨aJ, 1, none⟩ = some (.int .i64 0) := bc a7 1; have dL := blk_frozen a7.out 1; have c9 := aE.out; have cA := aG.out; have cB := a9.out; have cC := aF.out; have cD := aH.out; have cE := aI.out; have dR : b1.cell? ⟨aJ, 2, none⟩ = some (.int .i64 0) := bc a7 2; have dM := blk_frozen a7.out 2; have cF := aE.out; have cG := aG.out; have cH := a9.out; have cI := aF.out; have cJ := aH.out; have cK := aI.out; refine skip_ (w1 := ?_) ?hw ?hn ?_ ?_; (case hw => unfold Region.wanted; rfl); (case hn => rfl); rotate_left
  · go_simp
    rfl
  refine hK.out _ _ ⟨(cf a9 ((cf a9 ((cf a9 (hHeld.1)))))), (cf a9 ((cf a9 ((cf a9 (hHeld.2))))))⟩ (fun hHeld => ?_); clear hK K; refine pu 8 (some 7) (fl 9 511) HT_ ?_; refine done_ (done_of HT_.out (by kernel_rfl)) ?_
  try go_wp2
  refine bodyPost_ret (results_ct rfl _ _ aJ 35 #[.int .i64 aZ, .int .i64 b0, .int .i64 (wrap64 (a2 - aS))] (0, 0) _ rfl (qP a7) Try.underlying35 rfl (by kernel_rfl)) rfl ?_; exact ⟨qE, qL HB⟩

/-! ### spec_l3Meets: function 125 -/
def spec_l3Meets.f (a0 : Int) (a1 : Int) (a2 : Int) (aA : Int) (a3 : Int) (aB : Int) (a4 : Int) (a5 : Int) : Option (Bool) := if a0 ≤ a4 then (if a3 ≤ a2 then (if a1 ≤ a5 then (some (decide (aB ≤ aA))) else (some false)) else (some false)) else (some false)
set_option maxHeartbeats 8000000 in
set_option maxRecDepth 100000 in
theorem spec_l3Meets.calls (a0 : Int) (a1 : Int) (a2 : Int) (aA : Int) (a3 : Int) (aB : Int) (a4 : Int) (a5 : Int) (r : Bool) (w : World) (h : spec_l3Meets.f a0 a1 a2 aA a3 aB a4 a5 = some r) :
    Calls Try.prog 125 #[.agg #[.int .i64 a0, .int .i64 a1, .int .i64 a2, .int .i64 aA], .agg #[.int .i64 a3, .int .i64 aB, .int .i64 a4, .int .i64 a5]] w fun e w' => e = .returned (.bool r) ∧ Below w.heap.size w w' := by
  have hu85 := Try.underlying85; have HB := az (Below.refl w.heap.size w); have H : (if a0 ≤ a4 then (if a3 ≤ a2 then (if a1 ≤ a5 then (some (decide (aB ≤ aA))) else (some false)) else (some false)) else (some false)) = some r := h; clear h; by_cases a6 : a0 ≤ a4; rw [if_pos a6] at H; have aF : decide (a0 ≤ a4) = true := decide_eq_true a6; clear a6; by_cases a7 : a3 ≤ a2; rw [if_pos a7] at H; have aG : decide (a3 ≤ a2) = true := decide_eq_true a7; clear a7; by_cases a8 : a1 ≤ a5; rw [if_pos a8] at H; have aH : decide (a1 ≤ a5) = true := decide_eq_true a8; clear a8; obtain rfl := Option.some.inj H; refine ?L1; rotate_left; rw [if_neg a8] at H; have aH : decide (a1 ≤ a5) = false := decide_eq_false a8; clear a8; obtain rfl := Option.some.inj H; refine ?L2
  rotate_right
  rotate_left 2
  rw [if_neg a7] at H; have aG : decide (a3 ≤ a2) = false := decide_eq_false a7; clear a7; obtain rfl := Option.some.inj H; refine ?L3
  rotate_right 2
  rotate_left 3
  rw [if_neg a6] at H; have aF : decide (a0 ≤ a4) = false := decide_eq_false a6; clear a6; obtain rfl := Option.some.inj H; refine ?L4
  rotate_right 3
  case' L1 | L2 | L3 | L4 =>
    go_enter Try.func125, Try.ntmps125; go_wp2_with (first | ((with_reducible refine gate_dst (N := 2) rfl ?_); refine bx (N := 2) (cs := #[.int .i64 a0, .int .i64 a1, .int .i64 a2, .int .i64 aA]) (t := 85) ?_; intro aI hg w6 hbox hb; have a9 := az hbox; have aJ := az ((gE hg (qL HB) : w.heap.size ≤ aI)); have b2 := aJ; replace HB := bS HB hb; clear hb hbox hg) | ((with_reducible refine gate_dst (N := 3) rfl ?_); refine bx (N := 3) (cs := #[.int .i64 a3, .int .i64 aB, .int .i64 a4, .int .i64 a5]) (t := 85) ?_; intro aK hg w7 hbox hb; have aE := az hbox; have aL := az ((gE hg (qL HB) : w.heap.size ≤ aK)); have b3 := aL; obtain ⟨aC, aD⟩ := nPB a9 hg; replace a9 := kBB a9 hb; replace HB := bS HB hb; clear hb hbox hg; have b4 := aC.out; have b5 := aD.out; obtain ⟨aU, aV, aW, aX⟩ := cz4 a9.out; obtain ⟨aY, aZ, b0, b1⟩ := fz4 a9.out; obtain ⟨aM, aN, aO, aP⟩ := cz4 aE.out; obtain ⟨aQ, aR, aS, aT⟩ := fz4 aE.out))
    go_ret
  case' L1 | L2 | L3 =>
    exact ⟨qE, qL HB⟩
  case L4 =>
    exact ⟨qE, qL HB⟩
    

theorem rnL_l5B {P : Program} {ops : Array Oper} {Q : Exit → Act → World → Prop} {l : List Oper} {a : Act} {W : World} (K : World → Prop) (f : K W) (h : ∀ w', K w' → wpList P ops Q l a w') : wpList P ops Q l a W := h W f

/-! ### spec_l5Boxes: function 103 -/
def spec_l5Boxes.j0 : Nat → Int → Int → Int → Int → Int → Int → Int → Int → Int → Int → Int → Option (Int × Int × Int × Bool)
  | 0, _, _, _, _, _, _, _, _, _, _, _ => none
  | k + 1, dQ, b3, dR, bB, dS, bC, dT, b4, bJ, bK, bD => if (wrap64 (bB - bC)) < bD then (if (wrap64 (b4 - b3)) < (wrap64 (bB - bC)) then (some (0, (-256), wrap64 (b4 - b3), true)) else (some (0, 256, wrap64 (bB - bC), true))) else (if (wrap64 (b4 - b3)) < bD then (some (0, (-256), wrap64 (b4 - b3), true)) else (some (bJ, bK, bD, true)))
def spec_l5Boxes.f (k : Nat) (aG : Int) (aC : Int) (aH : Int) (aE : Int) (aI : Int) (aF : Int) (aJ : Int) (aD : Int) : Option (Int × Int × Int × Bool) := (spec_l3Meets.f aG aC aH aE aI aF aJ aD).bind fun bH => (if bH = true then (if (wrap64 (aJ - aG)) < (wrap64 (aH - aI)) then (spec_l5Boxes.j0 k aG aC aH aE aI aF aJ aD (-256) 0 (wrap64 (aJ - aG))) else (spec_l5Boxes.j0 k aG aC aH aE aI aF aJ aD 256 0 (wrap64 (aH - aI)))) else (some (0, 0, 0, false)))
theorem spec_l5Boxes.mono_l : ∀ k, (∀ y0 y1 y2 y3 y4 y5 y6 y7 y8 y9 dH, LeO (spec_l5Boxes.j0 k y0 y1 y2 y3 y4 y5 y6 y7 y8 y9 dH) (spec_l5Boxes.j0 (k + 1) y0 y1 y2 y3 y4 y5 y6 y7 y8 y9 dH))
  | 0 => fun _ _ _ _ _ _ _ _ _ _ _ r h => by simp [spec_l5Boxes.j0] at h
  | k + 1 => by
    have ih0 := spec_l5Boxes.mono_l k
    · intro y0 y1 y2 y3 y4 y5 y6 y7 y8 y9 dH
      unfold spec_l5Boxes.j0
      repeat' first
      | (with_reducible exact ih0 _ _ _ _ _ _ _ _ _ _ _)
      | (with_reducible exact LeO.refl _)
      | (with_reducible exact LeO.none _)
      | (with_reducible refine LeO.ite ?_ ?_)
      | (with_reducible refine LeO.bind ?_ (fun _ => ?_))
theorem spec_l5Boxes.mono : ∀ a0 a1 a2 a3 a4 a5 a6 a7 k, LeO (spec_l5Boxes.f k a0 a1 a2 a3 a4 a5 a6 a7) (spec_l5Boxes.f (k + 1) a0 a1 a2 a3 a4 a5 a6 a7) := by
  intro a0 a1 a2 a3 a4 a5 a6 a7 k
  have ih0 := spec_l5Boxes.mono_l k
  unfold spec_l5Boxes.f
  repeat' first
      | (with_reducible exact ih0 _ _ _ _ _ _ _ _ _ _ _)
      | (with_reducible exact LeO.refl _)
      | (with_reducible exact LeO.none _)
      | (with_reducible refine LeO.ite ?_ ?_)
      | (with_reducible refine LeO.bind ?_ (fun _ => ?_))
set_option maxHeartbeats 8000000 in
set_option maxRecDepth 100000 in
theorem spec_l5Boxes.calls (k : Nat) (aG : Int) (aC : Int) (aH : Int) (aE : Int) (aI : Int) (aF : Int) (aJ : Int) (aD : Int) (r1 : Int) (r2 : Int) (r3 : Int) (r4 : Bool) (w : World) (h : spec_l5Boxes.f k aG aC aH aE aI aF aJ aD = some (r1, r2, r3, r4)) :
    Calls Try.prog 103 #[.agg #[.int .i64 aG, .int .i64 aC, .int .i64 aH, .int .i64 aE], .agg #[.int .i64 aI, .int .i64 aF, .int .i64 aJ, .int .i64 aD]] w fun e w' => e = .returned (.tuple #[.agg #[.int .i64 r1, .int .i64 r2, .int .i64 r3], .bool r4]) ∧ Below w.heap.size w w' := by
  have hu85 := Try.underlying85; have hu35 := Try.underlying35; have hu33 := Try.underlying33; have HB := az (Below.refl w.heap.size w); have H : ((spec_l3Meets.f aG aC aH aE aI aF aJ aD).bind fun bH => (if bH = true then (if (wrap64 (aJ - aG)) < (wrap64 (aH - aI)) then (spec_l5Boxes.j0 k aG aC aH aE aI aF aJ aD (-256) 0 (wrap64 (aJ - aG))) else (spec_l5Boxes.j0 k aG aC aH aE aI aF aJ aD 256 0 (wrap64 (aH - aI)))) else (some (0, 0, 0, false)))) = some (r1, r2, r3, r4) := h; clear h; replace H := qH H; obtain ⟨dJ, bI, H⟩ := H
  try dsimp only at H
  by_cases bA : dJ = true; subst bA; replace H := qT H; refine ?L7; rotate_left; replace bA := Bool.eq_false_iff.mpr bA; subst bA; replace H := qU H; simp only [Option.some.injEq, Prod.mk.injEq] at H; obtain ⟨rfl, rfl, rfl, rfl⟩ := H; refine ?L8
  rotate_right
  case L7 =>
    have dI := az H; clear H; go_enter Try.func103, Try.ntmps103
    go_upto_if 30 with (first | ((with_reducible refine gate_dst (N := 2) rfl ?_); refine bx (N := 2) (cs := #[.int .i64 aG, .int .i64 aC, .int .i64 aH, .int .i64 aE]) (t := 85) ?_; intro aS hg w6 hbox hb; have a8 := az hbox; have bE := az ((gE hg (qL HB) : w.heap.size ≤ aS)); have dK := bE; replace HB := bS HB hb; clear hb hbox hg) | ((with_reducible refine gate_dst (N := 3) rfl ?_); refine bx (N := 3) (cs := #[.int .i64 aI, .int .i64 aF, .int .i64 aJ, .int .i64 aD]) (t := 85) ?_; intro aT hg w7 hbox hb; have a9 := az hbox; have bF := az ((gE hg (qL HB) : w.heap.size ≤ aT)); have dL := bF; obtain ⟨aM, aN⟩ := nPB a8 hg; replace a8 := kBB a8 hb; replace HB := bS HB hb; clear hb hbox hg) | ((with_reducible refine gate_dst (N := 4) rfl ?_); refine bz3 (N := 4) (t := 35) ?_; intro aL hg w8 hbox hb; have aA := az hbox; have bG := az ((gE hg (qL HB) : w.heap.size ≤ aL)); have dM := bG; obtain ⟨aO, aP⟩ := nPB a8 hg; obtain ⟨aQ, aR⟩ := nPB a9 hg; replace a8 := kBB a8 hb; replace a9 := kBB a9 hb; replace HB := bS HB hb; clear hb hbox hg; have hP := aM.out; have hQ := aN.out; have g5 := aO.out; have g6 := aP.out; obtain ⟨bL, bM, bN, bO⟩ := cz4 a8.out; obtain ⟨bP, bQ, bR, bT⟩ := fz4 a8.out; have g7 := aQ.out; have g8 := aR.out; obtain ⟨bU, bV, bW, bX⟩ := cz4 a9.out; obtain ⟨bY, bZ, c0, c1⟩ := fz4 a9.out) | ((with_reducible refine gate_callee (f := 125) rfl ?_); refine gl (some 9) Try.func125 #[.agg #[.int .i64 aG, .int .i64 aC, .int .i64 aH, .int .i64 aE], .agg #[.int .i64 aI, .int .i64 aF, .int .i64 aJ, .int .i64 aD]] ?_; (with_reducible refine (spec_l3Meets.calls aG aC aH aE aI aF aJ aD true _ bI.out).mono ?_); rintro e hR ⟨rfl, hb⟩; refine ⟨_, rfl, ?_⟩; replace a8 := kBB a8 hb; replace a9 := kBB a9 hb; replace aA := kBB aA hb; replace HB := bS HB hb; clear hb; obtain ⟨c2, c3, c4, c5⟩ := cz4 a8.out; obtain ⟨c6, c7, c8, c9⟩ := fz4 a8.out; obtain ⟨cA, cB, cC, cD⟩ := cz4 a9.out; obtain ⟨cE, cF, cG, cH⟩ := fz4 a9.out) | ((with_reducible refine gate_dst (N := 6) rfl ?_); refine bz3 (N := 6) (t := 35) ?_; intro b5 hg hS hbox hb; have aB := az hbox; have dN := az ((gE hg (qL HB) : w.heap.size ≤ b5)); have g9 := dN; obtain ⟨aX, aY⟩ := nPB a8 hg; obtain ⟨aZ, b0⟩ := nPB a9 hg; obtain ⟨b1, b2⟩ := nPB aA hg; replace a8 := kBB a8 hb; replace a9 := kBB a9 hb; replace aA := kBB aA hb; replace HB := bS HB hb; clear hb hbox hg; have gA := aY.out; have gB := aX.out; have gC := b0.out; have gD := aZ.out; have gF := b2.out; have gG := b1.out; obtain ⟨cI, cJ, cK⟩ := cz3 aB.out; obtain ⟨cL, cM, cN⟩ := fz3 aB.out; obtain ⟨cO, cP, cQ, cR⟩ := cz4 a9.out; obtain ⟨cS, cT, cU, cV⟩ := fz4 a9.out; obtain ⟨cW, cX, cY, cZ⟩ := cz4 a8.out; obtain ⟨dA, dB, dC, dD⟩ := fz4 a8.out))
    (try simp only [Act.put, List.setIfInBounds_toArray, List.set_cons_zero, List.set_cons_succ])
    go_cut [] (fun wc => ∃ (kq : Nat) (aU : Int) (aV : Int) (aK : Int), Aside0 (spec_l5Boxes.j0 kq aG aC aH aE aI aF aJ aD aU aV aK = some (r1, r2, r3, r4)) ∧ Aside0 (kq ≤ k) ∧ Aside0 (wc.heap[aS]? = some (.cells #[.int .i64 aG, .int .i64 aC, .int .i64 aH, .int .i64 aE] 85 (0, 0))) ∧ Aside0 (wc.heap[aT]? = some (.cells #[.int .i64 aI, .int .i64 aF, .int .i64 aJ, .int .i64 aD] 85 (0, 0))) ∧ Aside0 (wc.heap[aL]? = some (.cells #[.int .i64 0, .int .i64 0, .int .i64 0] 35 (0, 0))) ∧ Aside0 (wc.heap[b5]? = some (.cells #[.int .i64 aU, .int .i64 aV, .int .i64 aK] 35 (0, 0))) ∧ Aside0 (Below w.heap.size w wc))
    case first =>
      have H := dI.out; clear dI; by_cases b6 : (wrap64 (aJ - aG)) < (wrap64 (aH - aI)); rw [if_pos b6] at H; have aW : decide ((wrap64 (aJ - aG)) < (wrap64 (aH - aI))) = true := decide_eq_true b6; clear b6; (first | rw [aW] | (simp only [i64_w, i32_w]; rw [aW]) | skip); have H' := az H; clear H; refine ?L1; rotate_left; rw [if_neg b6] at H; have aW : decide ((wrap64 (aJ - aG)) < (wrap64 (aH - aI))) = false := decide_eq_false b6; clear b6; (first | rw [aW] | (simp only [i64_w, i32_w]; rw [aW]) | skip); have H' := az H; clear H; refine ?L2
      rotate_right
      case L1 =>
        have gH := aN.out; have gI := aM.out; have gJ := aQ.out; have gL := aR.out; have gM := aZ.out; have gN := b0.out; obtain ⟨dU, dV, dW, dX⟩ := cz4 a9.out; obtain ⟨dY, dZ, e0, e1⟩ := fz4 a9.out; have gO := aO.out; have gP := aP.out; have gQ := aX.out; have gR := aY.out; obtain ⟨e2, e3, e4, e5⟩ := cz4 a8.out; obtain ⟨e6, e7, e8, e9⟩ := fz4 a8.out; have gS := b2.out; have gT := b1.out; obtain ⟨eA, eB, eC⟩ := cz3 aB.out; obtain ⟨eD, eE, eF⟩ := fz3 aB.out; go_wp2
        go_meet
        exact ⟨_, ((-256)), (0), (wrap64 (aJ - aG)), H', ⟨qO⟩, ⟨qF a8⟩, ⟨qF a9⟩, ⟨qF aA⟩, ⟨qP aB⟩, ⟨qL HB⟩⟩
      case L2 =>
        go_wp2
        go_meet
        exact ⟨_, (256), (0), (wrap64 (aH - aI)), H', ⟨qO⟩, ⟨qF a8⟩, ⟨qF a9⟩, ⟨qF aA⟩, ⟨qP aB⟩, ⟨qL HB⟩⟩
    case rest =>
      clear dI; (try clear bA); (try clear bL); (try clear bM); (try clear bN); (try clear bO); (try clear bU); (try clear bV); (try clear bW); (try clear bX); (try clear c2); (try clear c3); (try clear c4); (try clear c5); (try clear cA); (try clear cB); (try clear cC); (try clear cD); (try clear cI); (try clear cJ); (try clear cK); (try clear cO); (try clear cP); (try clear cQ); (try clear cR); (try clear cW); (try clear cX); (try clear cY); (try clear cZ); (try clear bP); (try clear bQ); (try clear bR); (try clear bT); (try clear bY); (try clear bZ); (try clear c0); (try clear c1); (try clear c6); (try clear c7); (try clear c8); (try clear c9); (try clear cE); (try clear cF); (try clear cG); (try clear cH); (try clear cL); (try clear cM); (try clear cN); (try clear cS); (try clear cT); (try clear cU); (try clear cV); (try clear dA); (try clear dB); (try clear dC); (try clear dD); obtain ⟨kq, aU, aV, aK, HA, hU, a8, a9, aA, aB, HB⟩ := hcut
      cases kq with
      | zero => exact absurd HA.out (by simp [spec_l5Boxes.j0])
      | succ hV => ?_
      have H := HA.out; clear HA; simp only [spec_l5Boxes.j0] at H; by_cases b7 : (wrap64 (aE - aF)) < aK; rw [if_pos b7] at H; have dE : decide ((wrap64 (aE - aF)) < aK) = true := decide_eq_true b7; clear b7; by_cases b8 : (wrap64 (aD - aC)) < (wrap64 (aE - aF)); rw [if_pos b8] at H; have dF : decide ((wrap64 (aD - aC)) < (wrap64 (aE - aF))) = true := decide_eq_true b8; clear b8; simp only [Option.some.injEq, Prod.mk.injEq] at H; obtain ⟨rfl, rfl, rfl, rfl⟩ := H; refine ?L3; rotate_left; rw [if_neg b8] at H; have dF : decide ((wrap64 (aD - aC)) < (wrap64 (aE - aF))) = false := decide_eq_false b8; clear b8; simp only [Option.some.injEq, Prod.mk.injEq] at H; obtain ⟨rfl, rfl, rfl, rfl⟩ := H; refine ?L4
      rotate_right
      rotate_left 2
      rw [if_neg b7] at H; have dE : decide ((wrap64 (aE - aF)) < aK) = false := decide_eq_false b7; clear b7; by_cases b9 : (wrap64 (aD - aC)) < aK; rw [if_pos b9] at H; have dG : decide ((wrap64 (aD - aC)) < aK) = true := decide_eq_true b9; clear b9; simp only [Option.some.injEq, Prod.mk.injEq] at H; obtain ⟨rfl, rfl, rfl, rfl⟩ := H; refine ?L5; rotate_left; rw [if_neg b9] at H; have dG : decide ((wrap64 (aD - aC)) < aK) = false := decide_eq_false b9; clear b9; simp only [Option.some.injEq, Prod.mk.injEq] at H; obtain ⟨rfl, rfl, rfl, rfl⟩ := H; refine ?L6
      rotate_right
      rotate_right 2
      case' L3 | L4 | L5 | L6 =>
        have gU := aM.out; have gV := aN.out; have gW := aO.out; have gX := aP.out; have gY := aX.out; have gZ := aY.out; obtain ⟨eG, eH, eI, eJ⟩ := cz4 a8.out; obtain ⟨eK, eL, eM, eN⟩ := fz4 a8.out; have hA := aQ.out; have hD := aR.out; have hE := aZ.out; have hF := b0.out; obtain ⟨eO, eP, eQ, eR⟩ := cz4 a9.out; obtain ⟨eS, eT, eU, eV⟩ := fz4 a9.out; have hG := b2.out; have hH := b1.out; obtain ⟨eW, eX, eY⟩ := cz3 aB.out; obtain ⟨eZ, fA, fB⟩ := fz3 aB.out; obtain ⟨fC, fD, fE⟩ := cz3 aA.out; obtain ⟨fG, fH, fI⟩ := fz3 aA.out
      case L3 =>
        repeat (first | ((with_reducible refine gate_dst (N := 59) rfl ?_); refine rnL_l5B (fun w_ => w_.heap[b5]? = some (.cells #[.int .i64 0, .int .i64 256, .int .i64 (wrap64 (aE - aF))] 35 (0, 0)) ∧ w_.heap[aS]? = some (.cells #[.int .i64 aG, .int .i64 aC, .int .i64 aH, .int .i64 aE] 85 (0, 0)) ∧ w_.heap[aT]? = some (.cells #[.int .i64 aI, .int .i64 aF, .int .i64 aJ, .int .i64 aD] 85 (0, 0)) ∧ w_.heap[aL]? = some (.cells #[.int .i64 0, .int .i64 0, .int .i64 0] 35 (0, 0)) ∧ Below w.heap.size w w_) ⟨qP aB, qF a8, qF a9, qF aA, qL HB⟩ ?_; clear aB a8 a9 aA HB; rintro dO ⟨n0_, n1_, n2_, n3_, n4_⟩; have aB := az n0_; have a8 := az n1_; have a9 := az n2_; have aA := az n3_; have HB := az n4_; clear n0_ n1_ n2_ n3_ n4_; obtain ⟨z59_238_0, z59_238_1, z59_238_2, z59_238_3⟩ := cz4 a8.out; obtain ⟨f59_238_0, f59_238_1, f59_238_2, f59_238_3⟩ := fz4 a8.out; obtain ⟨z59_239_0, z59_239_1, z59_239_2, z59_239_3⟩ := cz4 a9.out; obtain ⟨f59_239_0, f59_239_1, f59_239_2, f59_239_3⟩ := fz4 a9.out; obtain ⟨z59_242_0, z59_242_1, z59_242_2⟩ := cz3 aB.out; obtain ⟨f59_242_0, f59_242_1, f59_242_2⟩ := fz3 aB.out; obtain ⟨z59_240_0, z59_240_1, z59_240_2⟩ := cz3 aA.out; obtain ⟨f59_240_0, f59_240_1, f59_240_2⟩ := fz3 aA.out; go_step) | ((with_reducible refine gate_dst (N := 78) rfl ?_); refine rnL_l5B (fun w_ => w_.heap[b5]? = some (.cells #[.int .i64 0, .int .i64 (-256), .int .i64 (wrap64 (aD - aC))] 35 (0, 0)) ∧ w_.heap[aS]? = some (.cells #[.int .i64 aG, .int .i64 aC, .int .i64 aH, .int .i64 aE] 85 (0, 0)) ∧ w_.heap[aT]? = some (.cells #[.int .i64 aI, .int .i64 aF, .int .i64 aJ, .int .i64 aD] 85 (0, 0)) ∧ w_.heap[aL]? = some (.cells #[.int .i64 0, .int .i64 0, .int .i64 0] 35 (0, 0)) ∧ Below w.heap.size w w_) ⟨qP aB, qF a8, qF a9, qF aA, qL HB⟩ ?_; clear aB a8 a9 aA HB; rintro dP ⟨n0_, n1_, n2_, n3_, n4_⟩; have aB := az n0_; have a8 := az n1_; have a9 := az n2_; have aA := az n3_; have HB := az n4_; clear n0_ n1_ n2_ n3_ n4_; obtain ⟨z78_242_0, z78_242_1, z78_242_2⟩ := cz3 aB.out; obtain ⟨f78_242_0, f78_242_1, f78_242_2⟩ := fz3 aB.out; obtain ⟨z78_240_0, z78_240_1, z78_240_2⟩ := cz3 aA.out; obtain ⟨f78_240_0, f78_240_1, f78_240_2⟩ := fz3 aA.out; go_step) | go_values | go_skip | go_guarded | go_step | go_upon | go_back)
        refine bodyPost_ret (results_ct rfl _ _ aL 35 #[.int .i64 0, .int .i64 (-256), .int .i64 (wrap64 (aD - aC))] (0, 0) _ rfl (qP aA) Try.underlying35 rfl (by kernel_rfl)) rfl ?_; exact ⟨qE, qL HB⟩
      case L4 =>
        repeat (first | ((with_reducible refine gate_dst (N := 59) rfl ?_); refine rnL_l5B (fun w_ => w_.heap[b5]? = some (.cells #[.int .i64 0, .int .i64 256, .int .i64 (wrap64 (aE - aF))] 35 (0, 0)) ∧ w_.heap[aS]? = some (.cells #[.int .i64 aG, .int .i64 aC, .int .i64 aH, .int .i64 aE] 85 (0, 0)) ∧ w_.heap[aT]? = some (.cells #[.int .i64 aI, .int .i64 aF, .int .i64 aJ, .int .i64 aD] 85 (0, 0)) ∧ w_.heap[aL]? = some (.cells #[.int .i64 0, .int .i64 0, .int .i64 0] 35 (0, 0)) ∧ Below w.heap.size w w_) ⟨qP aB, qF a8, qF a9, qF aA, qL HB⟩ ?_; clear aB a8 a9 aA HB; rintro dO ⟨n0_, n1_, n2_, n3_, n4_⟩; have aB := az n0_; have a8 := az n1_; have a9 := az n2_; have aA := az n3_; have HB := az n4_; clear n0_ n1_ n2_ n3_ n4_; obtain ⟨z59_238_0, z59_238_1, z59_238_2, z59_238_3⟩ := cz4 a8.out; obtain ⟨f59_238_0, f59_238_1, f59_238_2, f59_238_3⟩ := fz4 a8.out; obtain ⟨z59_239_0, z59_239_1, z59_239_2, z59_239_3⟩ := cz4 a9.out; obtain ⟨f59_239_0, f59_239_1, f59_239_2, f59_239_3⟩ := fz4 a9.out; obtain ⟨z59_242_0, z59_242_1, z59_242_2⟩ := cz3 aB.out; obtain ⟨f59_242_0, f59_242_1, f59_242_2⟩ := fz3 aB.out; obtain ⟨z59_240_0, z59_240_1, z59_240_2⟩ := cz3 aA.out; obtain ⟨f59_240_0, f59_240_1, f59_240_2⟩ := fz3 aA.out; go_step) | go_values | go_skip | go_guarded | go_step | go_upon | go_back)
        refine bodyPost_ret (results_ct rfl _ _ aL 35 #[.int .i64 0, .int .i64 256, .int .i64 (wrap64 (aE - aF))] (0, 0) _ rfl (qP aA) Try.underlying35 rfl (by kernel_rfl)) rfl ?_; exact ⟨qE, qL HB⟩
      case L5 =>
        repeat (first | ((with_reducible refine gate_dst (N := 78) rfl ?_); refine rnL_l5B (fun w_ => w_.heap[b5]? = some (.cells #[.int .i64 0, .int .i64 (-256), .int .i64 (wrap64 (aD - aC))] 35 (0, 0)) ∧ w_.heap[aS]? = some (.cells #[.int .i64 aG, .int .i64 aC, .int .i64 aH, .int .i64 aE] 85 (0, 0)) ∧ w_.heap[aT]? = some (.cells #[.int .i64 aI, .int .i64 aF, .int .i64 aJ, .int .i64 aD] 85 (0, 0)) ∧ w_.heap[aL]? = some (.cells #[.int .i64 0, .int .i64 0, .int .i64 0] 35 (0, 0)) ∧ Below w.heap.size w w_) ⟨qP aB, qF a8, qF a9, qF aA, qL HB⟩ ?_; clear aB a8 a9 aA HB; rintro dP ⟨n0_, n1_, n2_, n3_, n4_⟩; have aB := az n0_; have a8 := az n1_; have a9 := az n2_; have aA := az n3_; have HB := az n4_; clear n0_ n1_ n2_ n3_ n4_; obtain ⟨z78_242_0, z78_242_1, z78_242_2⟩ := cz3 aB.out; obtain ⟨f78_242_0, f78_242_1, f78_242_2⟩ := fz3 aB.out; obtain ⟨z78_240_0, z78_240_1, z78_240_2⟩ := cz3 aA.out; obtain ⟨f78_240_0, f78_240_1, f78_240_2⟩ := fz3 aA.out; go_step) | go_values | go_skip | go_guarded | go_step | go_upon | go_back)
        refine bodyPost_ret (results_ct rfl _ _ aL 35 #[.int .i64 0, .int .i64 (-256), .int .i64 (wrap64 (aD - aC))] (0, 0) _ rfl (qP aA) Try.underlying35 rfl (by kernel_rfl)) rfl ?_; exact ⟨qE, qL HB⟩
      case L6 =>
        go_wp2; refine bodyPost_ret (results_ct rfl _ _ aL 35 #[.int .i64 aU, .int .i64 aV, .int .i64 aK] (0, 0) _ rfl (qP aA) Try.underlying35 rfl (by kernel_rfl)) rfl ?_; exact ⟨qE, qL HB⟩
  case L8 =>
    go_enter Try.func103, Try.ntmps103; go_wp2_with (first | ((with_reducible refine gate_dst (N := 2) rfl ?_); refine bx (N := 2) (cs := #[.int .i64 aG, .int .i64 aC, .int .i64 aH, .int .i64 aE]) (t := 85) ?_; intro aS hg hW hbox hb; have a8 := az hbox; have bE := az ((gE hg (qL HB) : w.heap.size ≤ aS)); have dK := bE; replace HB := bS HB hb; clear hb hbox hg) | ((with_reducible refine gate_dst (N := 3) rfl ?_); refine bx (N := 3) (cs := #[.int .i64 aI, .int .i64 aF, .int .i64 aJ, .int .i64 aD]) (t := 85) ?_; intro aT hg hX hbox hb; have a9 := az hbox; have bF := az ((gE hg (qL HB) : w.heap.size ≤ aT)); have dL := bF; obtain ⟨aM, aN⟩ := nPB a8 hg; replace a8 := kBB a8 hb; replace HB := bS HB hb; clear hb hbox hg) | ((with_reducible refine gate_dst (N := 4) rfl ?_); refine bz3 (N := 4) (t := 35) ?_; intro aL hg hY hbox hb; have aA := az hbox; have bG := az ((gE hg (qL HB) : w.heap.size ≤ aL)); have dM := bG; obtain ⟨aO, aP⟩ := nPB a8 hg; obtain ⟨aQ, aR⟩ := nPB a9 hg; replace a8 := kBB a8 hb; replace a9 := kBB a9 hb; replace HB := bS HB hb; clear hb hbox hg; have hI := aM.out; have hJ := aN.out; have hK := aO.out; have hL := aP.out; obtain ⟨fJ, fK, fL, fM⟩ := cz4 a8.out; obtain ⟨fN, fO, fP, fQ⟩ := fz4 a8.out; have hM := aQ.out; have hO := aR.out; obtain ⟨fR, fS, fT, fU⟩ := cz4 a9.out; obtain ⟨fV, fW, fX, fY⟩ := fz4 a9.out) | ((with_reducible refine gate_callee (f := 125) rfl ?_); refine gl (some 9) Try.func125 #[.agg #[.int .i64 aG, .int .i64 aC, .int .i64 aH, .int .i64 aE], .agg #[.int .i64 aI, .int .i64 aF, .int .i64 aJ, .int .i64 aD]] ?_; (with_reducible refine (spec_l3Meets.calls aG aC aH aE aI aF aJ aD false _ bI.out).mono ?_); rintro e hZ ⟨rfl, hb⟩; refine ⟨_, rfl, ?_⟩; replace a8 := kBB a8 hb; replace a9 := kBB a9 hb; replace aA := kBB aA hb; replace HB := bS HB hb; clear hb; obtain ⟨fZ, g0, g1⟩ := cz3 aA.out; obtain ⟨g2, g3, g4⟩ := fz3 aA.out)); refine bodyPost_ret (results_ct rfl _ _ aL 35 #[.int .i64 0, .int .i64 0, .int .i64 0] (0, 0) _ rfl (qP aA) Try.underlying35 rfl (by kernel_rfl)) rfl ?_; exact ⟨qE, qL HB⟩
    

/-! ### spec_l3Bounds: function 104 -/
def spec_l3Bounds.f (a3 : Int) (a0 : Int) (a5 : Int) (a1 : Int) (a2 : Int) : Option (Int × Int × Int × Int) := if a3 = 1 then (some (wrap64 (a1 - a0), wrap64 (a2 - a0), wrap64 (a1 + a0), wrap64 (a2 + a0))) else (some (wrap64 (a1 - a0), wrap64 (a2 - a5), wrap64 (a1 + a0), wrap64 (a2 + a5)))
set_option maxHeartbeats 8000000 in
set_option maxRecDepth 100000 in
theorem spec_l3Bounds.calls (a3 : Int) (a0 : Int) (a5 : Int) (a1 : Int) (a2 : Int) (r1 : Int) (r2 : Int) (r3 : Int) (r4 : Int) (w : World) (h : spec_l3Bounds.f a3 a0 a5 a1 a2 = some (r1, r2, r3, r4)) :
    Calls Try.prog 104 #[.agg #[.int .i64 a3, .int .i64 a0, .int .i64 a5], .agg #[.int .i64 a1, .int .i64 a2]] w fun e w' => e = .returned (.agg #[.int .i64 r1, .int .i64 r2, .int .i64 r3, .int .i64 r4]) ∧ Below w.heap.size w w' := by
  have hu39 := Try.underlying39; have hu33 := Try.underlying33; have hu85 := Try.underlying85; have HB := az (Below.refl w.heap.size w); have H : (if a3 = 1 then (some (wrap64 (a1 - a0), wrap64 (a2 - a0), wrap64 (a1 + a0), wrap64 (a2 + a0))) else (some (wrap64 (a1 - a0), wrap64 (a2 - a5), wrap64 (a1 + a0), wrap64 (a2 + a5)))) = some (r1, r2, r3, r4) := h; clear h; by_cases a6 : a3 = 1; rw [if_pos a6] at H; have aG : (a3 == 1) = true := beq_iff_eq.mpr a6; have aH : (a3 != 1) = false := bne_eq_false_iff_eq.mpr a6; clear a6; simp only [Option.some.injEq, Prod.mk.injEq] at H; obtain ⟨rfl, rfl, rfl, rfl⟩ := H; refine ?L1; rotate_left; rw [if_neg a6] at H; have aG : (a3 == 1) = false := beq_eq_false_iff_ne.mpr a6; have aH : (a3 != 1) = true := bne_iff_ne.mpr a6; simp only [Option.some.injEq, Prod.mk.injEq] at H; obtain ⟨rfl, rfl, rfl, rfl⟩ := H; refine ?L2
  rotate_right
  case' L1 | L2 =>
    go_enter Try.func104, Try.ntmps104; go_wp2_with (first | ((with_reducible refine gate_dst (N := 2) rfl ?_); refine bx (N := 2) (cs := #[.int .i64 a3, .int .i64 a0, .int .i64 a5]) (t := 39) ?_; intro aI hg w4 hbox hb; have a4 := az hbox; have aJ := az ((gE hg (qL HB) : w.heap.size ≤ aI)); have b5 := aJ; replace HB := bS HB hb; clear hb hbox hg) | ((with_reducible refine gate_dst (N := 3) rfl ?_); refine bx (N := 3) (cs := #[.int .i64 a1, .int .i64 a2]) (t := 33) ?_; intro aK hg w5 hbox hb; have a7 := az hbox; have aL := az ((gE hg (qL HB) : w.heap.size ≤ aK)); have b6 := aL; obtain ⟨aA, aB⟩ := nPB a4 hg; replace a4 := kBB a4 hb; replace HB := bS HB hb; clear hb hbox hg) | ((with_reducible refine gate_dst (N := 4) rfl ?_); refine bz4 (N := 4) (t := 85) ?_; intro a9 hg w6 hbox hb; have a8 := az hbox; have aM := az ((gE hg (qL HB) : w.heap.size ≤ a9)); have b7 := aM; obtain ⟨aC, aD⟩ := nPB a4 hg; obtain ⟨aE, aF⟩ := nPB a7 hg; replace a4 := kBB a4 hb; replace a7 := kBB a7 hb; replace HB := bS HB hb; clear hb hbox hg; have bA := aA.out; have bB := aB.out; have bC := aC.out; have bD := aD.out; obtain ⟨aZ, b0, b1⟩ := cz3 a4.out; obtain ⟨b2, b3, b4⟩ := fz3 a4.out; have b8 := aE.out; have b9 := aF.out; obtain ⟨aN, aO⟩ := cz2 a7.out; have aP := blk_frozen a7.out 0; have aQ := blk_frozen a7.out 1; obtain ⟨aR, aS, aT, aU⟩ := cz4 a8.out; obtain ⟨aV, aW, aX, aY⟩ := fz4 a8.out))
  case L1 =>
    refine bodyPost_ret (results_cell_row rfl _ _ a9 85 #[.int .i64 (wrap64 (a1 - a0)), .int .i64 (wrap64 (a2 - a0)), .int .i64 (wrap64 (a1 + a0)), .int .i64 (wrap64 (a2 + a0))] (0, 0) _ rfl (qP a8) Try.underlying85 rfl (by kernel_rfl)) rfl ?_; exact ⟨qE, qL HB⟩
  case L2 =>
    refine bodyPost_ret (results_cell_row rfl _ _ a9 85 #[.int .i64 (wrap64 (a1 - a0)), .int .i64 (wrap64 (a2 - a5)), .int .i64 (wrap64 (a1 + a0)), .int .i64 (wrap64 (a2 + a5))] (0, 0) _ rfl (qP a8) Try.underlying85 rfl (by kernel_rfl)) rfl ?_; exact ⟨qE, qL HB⟩
    

/-! ### spec_l1In: function 77 -/
def spec_l1In.f (a0 : Int) (a1 : Int) (a2 : Int) : Option (Bool) := if a0 ≥ a1 then (some (decide (a0 ≤ a2))) else (some false)
set_option maxHeartbeats 8000000 in
set_option maxRecDepth 100000 in
theorem spec_l1In.calls (a0 : Int) (a1 : Int) (a2 : Int) (r : Bool) (w : World) (h : spec_l1In.f a0 a1 a2 = some r) :
    Calls Try.prog 77 #[.int .i64 a0, .int .i64 a1, .int .i64 a2] w fun e w' => e = .returned (.bool r) ∧ Drawn0 w w' := by
  have H : (if a0 ≥ a1 then (some (decide (a0 ≤ a2))) else (some false)) = some r := h; clear h; by_cases c4 : a0 ≥ a1
  · rw [if_pos c4] at H; have a3 : decide (a1 ≤ a0) = true := decide_eq_true c4; clear c4; obtain rfl := Option.some.inj H; go_enter Try.func77, Try.ntmps77; go_wp2
    go_ret
    exact ⟨by first | rfl | (simp; done) | (simp [*]; done), by repeat (first | exact Drawn0.refl _ | apply Drawn0.step)⟩
  rw [if_neg c4] at H; have a3 : decide (a1 ≤ a0) = false := decide_eq_false c4; clear c4; obtain rfl := Option.some.inj H; go_enter Try.func77, Try.ntmps77; go_wp2
  go_ret
  exact ⟨by first | rfl | (simp; done) | (simp [*]; done), by repeat (first | exact Drawn0.refl _ | apply Drawn0.step)⟩

/-! ### spec_l3Point: function 126 -/
def spec_l3Point.f (a0 : Int) (a3 : Int) (a1 : Int) (a4 : Int) (a2 : Int) (a5 : Int) : Option (Bool) := (spec_l1In.f a2 a0 a1).bind fun aB => (if aB = true then ((spec_l1In.f a5 a3 a4).bind fun aC => (some aC)) else (some false))
set_option maxHeartbeats 8000000 in
set_option maxRecDepth 100000 in
theorem spec_l3Point.calls (a0 : Int) (a3 : Int) (a1 : Int) (a4 : Int) (a2 : Int) (a5 : Int) (r : Bool) (w : World) (h : spec_l3Point.f a0 a3 a1 a4 a2 a5 = some r) :
    Calls Try.prog 126 #[.agg #[.int .i64 a0, .int .i64 a3, .int .i64 a1, .int .i64 a4], .agg #[.int .i64 a2, .int .i64 a5]] w fun e w' => e = .returned (.bool r) ∧ Below w.heap.size w w' := by
  have hu85 := Try.underlying85; have hu33 := Try.underlying33; have HB := az (Below.refl w.heap.size w); have H : ((spec_l1In.f a2 a0 a1).bind fun aB => (if aB = true then ((spec_l1In.f a5 a3 a4).bind fun aC => (some aC)) else (some false))) = some r := h; clear h; replace H := qH H; obtain ⟨aE, aD, H⟩ := H
  try dsimp only at H
  by_cases a7 : aE = true; subst a7; replace H := qT H; replace H := qH H; obtain ⟨aF, aG, H⟩ := H
  try dsimp only at H
  obtain rfl := Option.some.inj H; refine ?L1; rotate_left; replace a7 := Bool.eq_false_iff.mpr a7; subst a7; replace H := qU H; obtain rfl := Option.some.inj H; refine ?L2
  rotate_right
  case' L1 | L2 =>
    go_enter Try.func126, Try.ntmps126; go_wp2_with (first | ((with_reducible refine gate_dst (N := 2) rfl ?_); refine bx (N := 2) (cs := #[.int .i64 a0, .int .i64 a3, .int .i64 a1, .int .i64 a4]) (t := 85) ?_; intro aH hg w6 hbox hb; have a6 := az hbox; have aI := az ((gE hg (qL HB) : w.heap.size ≤ aH)); have aX := aI; replace HB := bS HB hb; clear hb hbox hg) | ((with_reducible refine gate_dst (N := 3) rfl ?_); refine bx (N := 3) (cs := #[.int .i64 a2, .int .i64 a5]) (t := 33) ?_; intro aJ hg w7 hbox hb; have a8 := az hbox; have aK := az ((gE hg (qL HB) : w.heap.size ≤ aJ)); have aY := aK; obtain ⟨a9, aA⟩ := nPB a6 hg; replace a6 := kBB a6 hb; replace HB := bS HB hb; clear hb hbox hg; have aZ := aA.out; have b0 := a9.out; obtain ⟨aT, aU⟩ := cz2 a8.out; have aV := blk_frozen a8.out 0; have aW := blk_frozen a8.out 1; obtain ⟨aL, aM, aN, aO⟩ := cz4 a6.out; obtain ⟨aP, aQ, aR, aS⟩ := fz4 a6.out) | ((with_reducible refine gate_callee (f := 77) rfl ?_); refine gl (some 13) Try.func77 #[.int .i64 a2, .int .i64 a0, .int .i64 a1] ?_; (with_reducible refine (spec_l1In.calls a2 a0 a1 true _ aD.out).mono ?_); rintro e w' ⟨rfl, ⟨nd, rfl⟩⟩; refine ⟨_, rfl, ?_⟩) | (go_at_call 77; (with_reducible refine (spec_l1In.calls a5 a3 a4 aF _ aG.out).mono ?_); rintro e w' ⟨rfl, ⟨nd, rfl⟩⟩) | ((with_reducible refine gate_callee (f := 77) rfl ?_); refine gl (some 13) Try.func77 #[.int .i64 a2, .int .i64 a0, .int .i64 a1] ?_; (with_reducible refine (spec_l1In.calls a2 a0 a1 false _ aD.out).mono ?_); rintro e w' ⟨rfl, ⟨nd, rfl⟩⟩; refine ⟨_, rfl, ?_⟩))
    go_ret
  case L1 =>
    exact ⟨qE, qL HB⟩
  case L2 =>
    exact ⟨qE, qL HB⟩
    

/-! ### spec_l3More: function 113 -/
def spec_l3More.f (a0 : Int) (a1 : Int) : Option (Int) := if a0 > a1 then (some a0) else (some a1)
set_option maxHeartbeats 8000000 in
set_option maxRecDepth 100000 in
theorem spec_l3More.calls (a0 : Int) (a1 : Int) (r : Int) (w : World) (h : spec_l3More.f a0 a1 = some r) :
    Calls Try.prog 113 #[.int .i64 a0, .int .i64 a1] w fun e w' => e = .returned (.int .i64 r) ∧ Drawn0 w w' := by
  have H : (if a0 > a1 then (some a0) else (some a1)) = some r := h; clear h; by_cases c3 : a0 > a1
  · rw [if_pos c3] at H; have a2 : decide (a1 < a0) = true := decide_eq_true c3; clear c3; obtain rfl := Option.some.inj H; go_enter Try.func113, Try.ntmps113; go_wp2
    go_ret
    exact ⟨by first | rfl | (simp; done) | (simp [*]; done), by repeat (first | exact Drawn0.refl _ | apply Drawn0.step)⟩
  rw [if_neg c3] at H; have a2 : decide (a1 < a0) = false := decide_eq_false c3; clear c3; obtain rfl := Option.some.inj H; go_enter Try.func113, Try.ntmps113; go_wp2
  go_ret
  exact ⟨by first | rfl | (simp; done) | (simp [*]; done), by repeat (first | exact Drawn0.refl _ | apply Drawn0.step)⟩
end Go.Proofs.Ytdngjedhbnoaoaa.PBig
