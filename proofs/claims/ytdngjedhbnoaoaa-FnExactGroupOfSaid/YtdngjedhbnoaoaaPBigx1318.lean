/- What these functions compute, each walked once: laws_heldBodyS; for all arguments and worlds, under the conditions that each theorem names. -/
import Derived.Test.YtdngjedhbnoaoaaSq
namespace Go.Proofs.Ytdngjedhbnoaoaa.PBig
open Go.RowKit Go.Proofs.YtdngjedhbnoaoaaW.PrintWords Go.Proofs.YtdngjedhbnoaoaaW.PrintLast Go.Proofs.YtdngjedhbnoaoaaW.PrintMore
attribute [local go_sem] max2_int min2_int max_two min_two max_three min_three max_four min_four   -- for this text's walks alone
set_option linter.unusedVariables false
set_option linter.unusedSimpArgs false

/-! ### laws_heldBodyS: function 42 -/
def laws_heldBodyS.l0 : Nat → List (S41) → Int → Int → Option (Int)
  | 0, _, _, _ => none
  | k + 1, x0, x1, x5 => if x5 < (x0.length : Int) then (if 0 ≤ x5 then (if ((rd_T41 x0 x5).f0) = x1 then (if ((rd_T41 x0 x5).f1.f0) = (wrap64 (x1 + 1)) then (if ((rd_T41 x0 x5).f1.f1) = (wrap64 ((wrap64 (x1 + 1)) + 1)) then (if ((rd_T41 x0 x5).f1.f2) = (wrap64 ((wrap64 ((wrap64 (x1 + 1)) + 1)) + 1)) then (if ((rd_T41 x0 x5).f2.f0) = (wrap64 ((wrap64 ((wrap64 ((wrap64 (x1 + 1)) + 1)) + 1)) + 1)) then (if ((rd_T41 x0 x5).f2.f1) = (wrap64 ((wrap64 ((wrap64 ((wrap64 ((wrap64 (x1 + 1)) + 1)) + 1)) + 1)) + 1)) then (if ((rd_T41 x0 x5).f3.f0) = (wrap64 ((wrap64 ((wrap64 ((wrap64 ((wrap64 ((wrap64 (x1 + 1)) + 1)) + 1)) + 1)) + 1)) + 1)) then (if ((rd_T41 x0 x5).f3.f1) = (wrap64 ((wrap64 ((wrap64 ((wrap64 ((wrap64 ((wrap64 ((wrap64 (x1 + 1)) + 1)) + 1)) + 1)) + 1)) + 1)) + 1)) then (if ((rd_T41 x0 x5).f4) = (wrap64 ((wrap64 ((wrap64 ((wrap64 ((wrap64 ((wrap64 ((wrap64 ((wrap64 (x1 + 1)) + 1)) + 1)) + 1)) + 1)) + 1)) + 1)) + 1)) then (if ((rd_T41 x0 x5).f5) = (wrap64 ((wrap64 ((wrap64 ((wrap64 ((wrap64 ((wrap64 ((wrap64 ((wrap64 ((wrap64 (x1 + 1)) + 1)) + 1)) + 1)) + 1)) + 1)) + 1)) + 1)) + 1)) then (if ((rd_T41 x0 x5).f6) = (wrap64 ((wrap64 ((wrap64 ((wrap64 ((wrap64 ((wrap64 ((wrap64 ((wrap64 ((wrap64 ((wrap64 (x1 + 1)) + 1)) + 1)) + 1)) + 1)) + 1)) + 1)) + 1)) + 1)) + 1)) then (if ((rd_T41 x0 x5).f7) = (wrap64 ((wrap64 ((wrap64 ((wrap64 ((wrap64 ((wrap64 ((wrap64 ((wrap64 ((wrap64 ((wrap64 ((wrap64 (x1 + 1)) + 1)) + 1)) + 1)) + 1)) + 1)) + 1)) + 1)) + 1)) + 1)) + 1)) then (laws_heldBodyS.l0 k x0 (wrap64 ((wrap64 ((wrap64 ((wrap64 ((wrap64 ((wrap64 ((wrap64 ((wrap64 ((wrap64 ((wrap64 ((wrap64 ((wrap64 (x1 + 1)) + 1)) + 1)) + 1)) + 1)) + 1)) + 1)) + 1)) + 1)) + 1)) + 1)) + 1)) (wrap64 (x5 + 1))) else (some (-1))) else (some (-1))) else (some (-1))) else (some (-1))) else (some (-1))) else (some (-1))) else (some (-1))) else (some (-1))) else (some (-1))) else (some (-1))) else (some (-1))) else (some (-1))) else (none)) else (some x1)
def laws_heldBodyS.f (k : Nat) (l0 : List (S41)) (a1 : Int) : Option (Int) := laws_heldBodyS.l0 k l0 a1 0
theorem laws_heldBodyS.mono_l : ∀ k, (∀ y0 y1 y2, LeO (laws_heldBodyS.l0 k y0 y1 y2) (laws_heldBodyS.l0 (k + 1) y0 y1 y2))
  | 0 => fun _ _ _ r h => by simp [laws_heldBodyS.l0] at h
  | k + 1 => by
    have ih0 := laws_heldBodyS.mono_l k
    · intro y0 y1 y2
      unfold laws_heldBodyS.l0
      repeat' first
      | (with_reducible exact ih0 _ _ _)
      | (with_reducible exact LeO.refl _)
      | (with_reducible exact LeO.none _)
      | (with_reducible refine LeO.ite ?_ ?_)
      | (with_reducible refine LeO.bind ?_ (fun _ => ?_))
theorem laws_heldBodyS.mono : ∀ a0 a1 k, LeO (laws_heldBodyS.f k a0 a1) (laws_heldBodyS.f (k + 1) a0 a1) := by
  intro a0 a1 k
  have ih0 := laws_heldBodyS.mono_l k
  unfold laws_heldBodyS.f
  repeat' first
      | (with_reducible exact ih0 _ _ _)
      | (with_reducible exact LeO.refl _)
      | (with_reducible exact LeO.none _)
      | (with_reducible refine LeO.ite ?_ ?_)
      | (with_reducible refine LeO.bind ?_ (fun _ => ?_))
set_option maxHeartbeats 8000000 in
set_option maxRecDepth 100000 in
theorem laws_heldBodyS.calls (k : Nat) (A0 : Option Addr) (c0 : Nat) (l0 : List (S41)) (a1 : Int) (r : Int) (w : World) (hr0 : Kd.C k41 w A0 l0.length l0) (hc0 : l0.length ≤ c0) (h : laws_heldBodyS.f k l0 a1 = some r) :
    Calls Try.prog 42 #[.slice A0 l0.length c0, .int .i64 a1] w fun e w' => e = .returned (.int .i64 r) ∧ Drawn0 w w' := by
  have HR0 := az hr0; have hM := az hc0; clear hr0 hc0; have H : (laws_heldBodyS.l0 k l0 a1 0) = some r := h; clear h; have H' := az H; clear H; go_enter Try.func42, Try.ntmps42; go_wp2
  go_loopg [1, 5] k (fun kq v1 v5 w' => ∃ (a3 : Int) (a2 : Int), v1 = .int .i64 a3 ∧ v5 = .int .i64 a2 ∧ Aside0 (laws_heldBodyS.l0 kq l0 a3 a2 = some r) ∧ Aside0 (kq ≤ k) ∧ Drawn0 w w')
  case atStart => exact ⟨(a1), (0), qG, qG, H', ⟨Nat.le_refl _⟩, by repeat (first | exact Drawn0.refl _ | apply Drawn0.step)⟩
  case round =>
    clear H'
    try clear p2
    obtain ⟨a3, a2, rfl, rfl, HA, cL, ⟨m1, rfl⟩⟩ := hrel
    cases gk with
    | zero => exact absurd HA.out (by simp [laws_heldBodyS.l0])
    | succ k1 => ?_
    have H := HA.out; clear HA; simp only [laws_heldBodyS.l0] at H; by_cases aH : a2 < (l0.length : Int); rw [if_pos aH] at H; have b7 : decide (a2 < (l0.length : Int)) = true := decide_eq_true aH; clear aH; replace H := qif H; obtain ⟨b6, H⟩ := H; have hL : decide (0 ≤ a2) = true := decide_eq_true b6; clear b6; by_cases a5 : ((rd_T41 l0 a2).f0) = a3; rw [if_pos a5] at H; have b8 : (((rd_T41 l0 a2).f0) == a3) = true := beq_iff_eq.mpr a5; have b9 : (((rd_T41 l0 a2).f0) != a3) = false := bne_eq_false_iff_eq.mpr a5; clear a5; by_cases a6 : ((rd_T41 l0 a2).f1.f0) = (wrap64 (a3 + 1)); rw [if_pos a6] at H; have bA : (((rd_T41 l0 a2).f1.f0) == (wrap64 (a3 + 1))) = true := beq_iff_eq.mpr a6; have bB : (((rd_T41 l0 a2).f1.f0) != (wrap64 (a3 + 1))) = false := bne_eq_false_iff_eq.mpr a6; clear a6; by_cases a7 : ((rd_T41 l0 a2).f1.f1) = (wrap64 ((wrap64 (a3 + 1)) + 1)); rw [if_pos a7] at H; have bC : (((rd_T41 l0 a2).f1.f1) == (wrap64 ((wrap64 (a3 + 1)) + 1))) = true := beq_iff_eq.mpr a7; have bD : (((rd_T41 l0 a2).f1.f1) != (wrap64 ((wrap64 (a3 + 1)) + 1))) = false := bne_eq_false_iff_eq.mpr a7; clear a7; by_cases a8 : ((rd_T41 l0 a2).f1.f2) = (wrap64 ((wrap64 ((wrap64 (a3 + 1)) + 1)) + 1)); rw [if_pos a8] at H; have bE : (((rd_T41 l0 a2).f1.f2) == (wrap64 ((wrap64 ((wrap64 (a3 + 1)) + 1)) + 1))) = true := beq_iff_eq.mpr a8; have bF : (((rd_T41 l0 a2).f1.f2) != (wrap64 ((wrap64 ((wrap64 (a3 + 1)) + 1)) + 1))) = false := bne_eq_false_iff_eq.mpr a8; clear a8; by_cases a9 : ((rd_T41 l0 a2).f2.f0) = (wrap64 ((wrap64 ((wrap64 ((wrap64 (a3 + 1)) + 1)) + 1)) + 1)); rw [if_pos a9] at H; have bG : (((rd_T41 l0 a2).f2.f0) == (wrap64 ((wrap64 ((wrap64 ((wrap64 (a3 + 1)) + 1)) + 1)) + 1))) = true := beq_iff_eq.mpr a9; have bH : (((rd_T41 l0 a2).f2.f0) != (wrap64 ((wrap64 ((wrap64 ((wrap64 (a3 + 1)) + 1)) + 1)) + 1))) = false := bne_eq_false_iff_eq.mpr a9; clear a9; by_cases aA : ((rd_T41 l0 a2).f2.f1) = (wrap64 ((wrap64 ((wrap64 ((wrap64 ((wrap64 (a3 + 1)) + 1)) + 1)) + 1)) + 1)); rw [if_pos aA] at H; have bI : (((rd_T41 l0 a2).f2.f1) == (wrap64 ((wrap64 ((wrap64 ((wrap64 ((wrap64 (a3 + 1)) + 1)) + 1)) + 1)) + 1))) = true := beq_iff_eq.mpr aA; have bJ : (((rd_T41 l0 a2).f2.f1) != (wrap64 ((wrap64 ((wrap64 ((wrap64 ((wrap64 (a3 + 1)) + 1)) + 1)) + 1)) + 1))) = false := bne_eq_false_iff_eq.mpr aA; clear aA; by_cases aB : ((rd_T41 l0 a2).f3.f0) = (wrap64 ((wrap64 ((wrap64 ((wrap64 ((wrap64 ((wrap64 (a3 + 1)) + 1)) + 1)) + 1)) + 1)) + 1)); rw [if_pos aB] at H; have bK : (((rd_T41 l0 a2).f3.f0) == (wrap64 ((wrap64 ((wrap64 ((wrap64 ((wrap64 ((wrap64 (a3 + 1)) + 1)) + 1)) + 1)) + 1)) + 1))) = true := beq_iff_eq.mpr aB; have bL : (((rd_T41 l0 a2).f3.f0) != (wrap64 ((wrap64 ((wrap64 ((wrap64 ((wrap64 ((wrap64 (a3 + 1)) + 1)) + 1)) + 1)) + 1)) + 1))) = false := bne_eq_false_iff_eq.mpr aB
    clear aB; by_cases aC : ((rd_T41 l0 a2).f3.f1) = (wrap64 ((wrap64 ((wrap64 ((wrap64 ((wrap64 ((wrap64 ((wrap64 (a3 + 1)) + 1)) + 1)) + 1)) + 1)) + 1)) + 1)); rw [if_pos aC] at H; have bM : (((rd_T41 l0 a2).f3.f1) == (wrap64 ((wrap64 ((wrap64 ((wrap64 ((wrap64 ((wrap64 ((wrap64 (a3 + 1)) + 1)) + 1)) + 1)) + 1)) + 1)) + 1))) = true := beq_iff_eq.mpr aC; have bN : (((rd_T41 l0 a2).f3.f1) != (wrap64 ((wrap64 ((wrap64 ((wrap64 ((wrap64 ((wrap64 ((wrap64 (a3 + 1)) + 1)) + 1)) + 1)) + 1)) + 1)) + 1))) = false := bne_eq_false_iff_eq.mpr aC; clear aC; by_cases aD : ((rd_T41 l0 a2).f4) = (wrap64 ((wrap64 ((wrap64 ((wrap64 ((wrap64 ((wrap64 ((wrap64 ((wrap64 (a3 + 1)) + 1)) + 1)) + 1)) + 1)) + 1)) + 1)) + 1)); rw [if_pos aD] at H; have bO : (((rd_T41 l0 a2).f4) == (wrap64 ((wrap64 ((wrap64 ((wrap64 ((wrap64 ((wrap64 ((wrap64 ((wrap64 (a3 + 1)) + 1)) + 1)) + 1)) + 1)) + 1)) + 1)) + 1))) = true := beq_iff_eq.mpr aD; have bP : (((rd_T41 l0 a2).f4) != (wrap64 ((wrap64 ((wrap64 ((wrap64 ((wrap64 ((wrap64 ((wrap64 ((wrap64 (a3 + 1)) + 1)) + 1)) + 1)) + 1)) + 1)) + 1)) + 1))) = false := bne_eq_false_iff_eq.mpr aD; clear aD; by_cases aE : ((rd_T41 l0 a2).f5) = (wrap64 ((wrap64 ((wrap64 ((wrap64 ((wrap64 ((wrap64 ((wrap64 ((wrap64 ((wrap64 (a3 + 1)) + 1)) + 1)) + 1)) + 1)) + 1)) + 1)) + 1)) + 1)); rw [if_pos aE] at H; have bQ : (((rd_T41 l0 a2).f5) == (wrap64 ((wrap64 ((wrap64 ((wrap64 ((wrap64 ((wrap64 ((wrap64 ((wrap64 ((wrap64 (a3 + 1)) + 1)) + 1)) + 1)) + 1)) + 1)) + 1)) + 1)) + 1))) = true := beq_iff_eq.mpr aE; have bR : (((rd_T41 l0 a2).f5) != (wrap64 ((wrap64 ((wrap64 ((wrap64 ((wrap64 ((wrap64 ((wrap64 ((wrap64 ((wrap64 (a3 + 1)) + 1)) + 1)) + 1)) + 1)) + 1)) + 1)) + 1)) + 1))) = false := bne_eq_false_iff_eq.mpr aE; clear aE; by_cases aF : ((rd_T41 l0 a2).f6) = (wrap64 ((wrap64 ((wrap64 ((wrap64 ((wrap64 ((wrap64 ((wrap64 ((wrap64 ((wrap64 ((wrap64 (a3 + 1)) + 1)) + 1)) + 1)) + 1)) + 1)) + 1)) + 1)) + 1)) + 1)); rw [if_pos aF] at H; have bT : (((rd_T41 l0 a2).f6) == (wrap64 ((wrap64 ((wrap64 ((wrap64 ((wrap64 ((wrap64 ((wrap64 ((wrap64 ((wrap64 ((wrap64 (a3 + 1)) + 1)) + 1)) + 1)) + 1)) + 1)) + 1)) + 1)) + 1)) + 1))) = true := beq_iff_eq.mpr aF; have bU : (((rd_T41 l0 a2).f6) != (wrap64 ((wrap64 ((wrap64 ((wrap64 ((wrap64 ((wrap64 ((wrap64 ((wrap64 ((wrap64 ((wrap64 (a3 + 1)) + 1)) + 1)) + 1)) + 1)) + 1)) + 1)) + 1)) + 1)) + 1))) = false := bne_eq_false_iff_eq.mpr aF; clear aF; by_cases aG : ((rd_T41 l0 a2).f7) = (wrap64 ((wrap64 ((wrap64 ((wrap64 ((wrap64 ((wrap64 ((wrap64 ((wrap64 ((wrap64 ((wrap64 ((wrap64 (a3 + 1)) + 1)) + 1)) + 1)) + 1)) + 1)) + 1)) + 1)) + 1)) + 1)) + 1)); rw [if_pos aG] at H; have bV : (((rd_T41 l0 a2).f7) == (wrap64 ((wrap64 ((wrap64 ((wrap64 ((wrap64 ((wrap64 ((wrap64 ((wrap64 ((wrap64 ((wrap64 ((wrap64 (a3 + 1)) + 1)) + 1)) + 1)) + 1)) + 1)) + 1)) + 1)) + 1)) + 1)) + 1))) = true := beq_iff_eq.mpr aG
    have bW : (((rd_T41 l0 a2).f7) != (wrap64 ((wrap64 ((wrap64 ((wrap64 ((wrap64 ((wrap64 ((wrap64 ((wrap64 ((wrap64 ((wrap64 ((wrap64 (a3 + 1)) + 1)) + 1)) + 1)) + 1)) + 1)) + 1)) + 1)) + 1)) + 1)) + 1))) = false := bne_eq_false_iff_eq.mpr aG; clear aG; have H' := az H; clear H; refine ?L1; rotate_left; rw [if_neg aG] at H; have bV : (((rd_T41 l0 a2).f7) == (wrap64 ((wrap64 ((wrap64 ((wrap64 ((wrap64 ((wrap64 ((wrap64 ((wrap64 ((wrap64 ((wrap64 ((wrap64 (a3 + 1)) + 1)) + 1)) + 1)) + 1)) + 1)) + 1)) + 1)) + 1)) + 1)) + 1))) = false := beq_eq_false_iff_ne.mpr aG; have bW : (((rd_T41 l0 a2).f7) != (wrap64 ((wrap64 ((wrap64 ((wrap64 ((wrap64 ((wrap64 ((wrap64 ((wrap64 ((wrap64 ((wrap64 ((wrap64 (a3 + 1)) + 1)) + 1)) + 1)) + 1)) + 1)) + 1)) + 1)) + 1)) + 1)) + 1))) = true := bne_iff_ne.mpr aG; obtain rfl := Option.some.inj H; refine ?L2
    rotate_right
    rotate_left 2
    rw [if_neg aF] at H; have bT : (((rd_T41 l0 a2).f6) == (wrap64 ((wrap64 ((wrap64 ((wrap64 ((wrap64 ((wrap64 ((wrap64 ((wrap64 ((wrap64 ((wrap64 (a3 + 1)) + 1)) + 1)) + 1)) + 1)) + 1)) + 1)) + 1)) + 1)) + 1))) = false := beq_eq_false_iff_ne.mpr aF; have bU : (((rd_T41 l0 a2).f6) != (wrap64 ((wrap64 ((wrap64 ((wrap64 ((wrap64 ((wrap64 ((wrap64 ((wrap64 ((wrap64 ((wrap64 (a3 + 1)) + 1)) + 1)) + 1)) + 1)) + 1)) + 1)) + 1)) + 1)) + 1))) = true := bne_iff_ne.mpr aF; obtain rfl := Option.some.inj H; refine ?L3
    rotate_right 2
    rotate_left 3
    rw [if_neg aE] at H; have bQ : (((rd_T41 l0 a2).f5) == (wrap64 ((wrap64 ((wrap64 ((wrap64 ((wrap64 ((wrap64 ((wrap64 ((wrap64 ((wrap64 (a3 + 1)) + 1)) + 1)) + 1)) + 1)) + 1)) + 1)) + 1)) + 1))) = false := beq_eq_false_iff_ne.mpr aE; have bR : (((rd_T41 l0 a2).f5) != (wrap64 ((wrap64 ((wrap64 ((wrap64 ((wrap64 ((wrap64 ((wrap64 ((wrap64 ((wrap64 (a3 + 1)) + 1)) + 1)) + 1)) + 1)) + 1)) + 1)) + 1)) + 1))) = true := bne_iff_ne.mpr aE; obtain rfl := Option.some.inj H; refine ?L4
    rotate_right 3
    rotate_left 4
    rw [if_neg aD] at H; have bO : (((rd_T41 l0 a2).f4) == (wrap64 ((wrap64 ((wrap64 ((wrap64 ((wrap64 ((wrap64 ((wrap64 ((wrap64 (a3 + 1)) + 1)) + 1)) + 1)) + 1)) + 1)) + 1)) + 1))) = false := beq_eq_false_iff_ne.mpr aD; have bP : (((rd_T41 l0 a2).f4) != (wrap64 ((wrap64 ((wrap64 ((wrap64 ((wrap64 ((wrap64 ((wrap64 ((wrap64 (a3 + 1)) + 1)) + 1)) + 1)) + 1)) + 1)) + 1)) + 1))) = true := bne_iff_ne.mpr aD; obtain rfl := Option.some.inj H; refine ?L5
    rotate_right 4
    rotate_left 5
    rw [if_neg aC] at H; have bM : (((rd_T41 l0 a2).f3.f1) == (wrap64 ((wrap64 ((wrap64 ((wrap64 ((wrap64 ((wrap64 ((wrap64 (a3 + 1)) + 1)) + 1)) + 1)) + 1)) + 1)) + 1))) = false := beq_eq_false_iff_ne.mpr aC; have bN : (((rd_T41 l0 a2).f3.f1) != (wrap64 ((wrap64 ((wrap64 ((wrap64 ((wrap64 ((wrap64 ((wrap64 (a3 + 1)) + 1)) + 1)) + 1)) + 1)) + 1)) + 1))) = true := bne_iff_ne.mpr aC; obtain rfl := Option.some.inj H; refine ?L6
    rotate_right 5
    rotate_left 6
    rw [if_neg aB] at H; have bK : (((rd_T41 l0 a2).f3.f0) == (wrap64 ((wrap64 ((wrap64 ((wrap64 ((wrap64 ((wrap64 (a3 + 1)) + 1)) + 1)) + 1)) + 1)) + 1))) = false := beq_eq_false_iff_ne.mpr aB; have bL : (((rd_T41 l0 a2).f3.f0) != (wrap64 ((wrap64 ((wrap64 ((wrap64 ((wrap64 ((wrap64 (a3 + 1)) + 1)) + 1)) + 1)) + 1)) + 1))) = true := bne_iff_ne.mpr aB; obtain rfl := Option.some.inj H; refine ?L7
    rotate_right 6
    rotate_left 7
    rw [if_neg aA] at H; have bI : (((rd_T41 l0 a2).f2.f1) == (wrap64 ((wrap64 ((wrap64 ((wrap64 ((wrap64 (a3 + 1)) + 1)) + 1)) + 1)) + 1))) = false := beq_eq_false_iff_ne.mpr aA; have bJ : (((rd_T41 l0 a2).f2.f1) != (wrap64 ((wrap64 ((wrap64 ((wrap64 ((wrap64 (a3 + 1)) + 1)) + 1)) + 1)) + 1))) = true := bne_iff_ne.mpr aA; obtain rfl := Option.some.inj H; refine ?L8
    rotate_right 7
    rotate_left 8
    rw [if_neg a9] at H; have bG : (((rd_T41 l0 a2).f2.f0) == (wrap64 ((wrap64 ((wrap64 ((wrap64 (a3 + 1)) + 1)) + 1)) + 1))) = false := beq_eq_false_iff_ne.mpr a9; have bH : (((rd_T41 l0 a2).f2.f0) != (wrap64 ((wrap64 ((wrap64 ((wrap64 (a3 + 1)) + 1)) + 1)) + 1))) = true := bne_iff_ne.mpr a9; obtain rfl := Option.some.inj H; refine ?L9
    rotate_right 8
    rotate_left 9
    rw [if_neg a8] at H; have bE : (((rd_T41 l0 a2).f1.f2) == (wrap64 ((wrap64 ((wrap64 (a3 + 1)) + 1)) + 1))) = false := beq_eq_false_iff_ne.mpr a8; have bF : (((rd_T41 l0 a2).f1.f2) != (wrap64 ((wrap64 ((wrap64 (a3 + 1)) + 1)) + 1))) = true := bne_iff_ne.mpr a8; obtain rfl := Option.some.inj H; refine ?L10
    rotate_right 9
    rotate_left 10
    rw [if_neg a7] at H; have bC : (((rd_T41 l0 a2).f1.f1) == (wrap64 ((wrap64 (a3 + 1)) + 1))) = false := beq_eq_false_iff_ne.mpr a7; have bD : (((rd_T41 l0 a2).f1.f1) != (wrap64 ((wrap64 (a3 + 1)) + 1))) = true := bne_iff_ne.mpr a7; obtain rfl := Option.some.inj H; refine ?L11
    rotate_right 10
    rotate_left 11
    rw [if_neg a6] at H; have bA : (((rd_T41 l0 a2).f1.f0) == (wrap64 (a3 + 1))) = false := beq_eq_false_iff_ne.mpr a6; have bB : (((rd_T41 l0 a2).f1.f0) != (wrap64 (a3 + 1))) = true := bne_iff_ne.mpr a6; obtain rfl := Option.some.inj H; refine ?L12
    rotate_right 11
    rotate_left 12
    rw [if_neg a5] at H; have b8 : (((rd_T41 l0 a2).f0) == a3) = false := beq_eq_false_iff_ne.mpr a5; have b9 : (((rd_T41 l0 a2).f0) != a3) = true := bne_iff_ne.mpr a5; obtain rfl := Option.some.inj H; refine ?L13
    rotate_right 12
    rotate_left 13
    rw [if_neg aH] at H; have b7 : decide (a2 < (l0.length : Int)) = false := decide_eq_false aH; clear aH; obtain rfl := Option.some.inj H; refine ?L14
    rotate_right 13
    case' L1 | L2 | L3 | L4 | L5 | L6 | L7 | L8 | L9 | L10 | L11 | L12 | L13 =>
      have aI : 0 ≤ (a2 : Int) := qD; have aJ : a2 < (l0.length : Int) := qD; obtain ⟨a4, c9, dK, dL, dM, dN, dO, dP, dQ, dR, dS, dT, cM, cN⟩ := at_T41 HR0.out a2 aI aJ; cases c9; replace aI := eq_true aI; replace aJ := eq_true aJ
    case' L1 | L2 | L3 | L4 | L5 | L6 | L7 | L8 | L9 | L10 | L11 | L12 =>
      have aK : 0 ≤ (a2 : Int) := qD; have aL : a2 < (l0.length : Int) := qD; obtain ⟨bX, cA, dU, dV, dW, dX, dY, dZ, e0, e1, e2, e3, cO, cP⟩ := at_T41 HR0.out a2 aK aL; obtain rfl : a4 = bX := (by injection cA); replace aK := eq_true aK; replace aL := eq_true aL
    case' L1 | L2 | L3 | L4 | L5 | L6 | L7 | L8 | L9 | L10 | L11 =>
      have aM : 0 ≤ (a2 : Int) := qD; have aN : a2 < (l0.length : Int) := qD; obtain ⟨bY, cB, e4, e5, e6, e7, e8, e9, eA, eB, eC, eD, cQ, cR⟩ := at_T41 HR0.out a2 aM aN; obtain rfl : a4 = bY := (by injection cB); replace aM := eq_true aM; replace aN := eq_true aN
    case' L1 | L2 | L3 | L4 | L5 | L6 | L7 | L8 | L9 | L10 =>
      have aO : 0 ≤ (a2 : Int) := qD; have aP : a2 < (l0.length : Int) := qD; obtain ⟨bZ, cC, eE, eF, eG, eH, eI, eJ, eK, eL, eM, eN, cS, cT⟩ := at_T41 HR0.out a2 aO aP; obtain rfl : a4 = bZ := (by injection cC); replace aO := eq_true aO; replace aP := eq_true aP
    case' L1 | L2 | L3 | L4 | L5 | L6 | L7 | L8 | L9 =>
      have aQ : 0 ≤ (a2 : Int) := qD; have aR : a2 < (l0.length : Int) := qD; obtain ⟨c1, cD, eO, eP, eQ, eR, eS, eT, eU, eV, eW, eX, cU, cV⟩ := at_T41 HR0.out a2 aQ aR; obtain rfl : a4 = c1 := (by injection cD); replace aQ := eq_true aQ; replace aR := eq_true aR
    case' L1 | L2 | L3 | L4 | L5 | L6 | L7 | L8 =>
      have aS : 0 ≤ (a2 : Int) := qD; have aT : a2 < (l0.length : Int) := qD; obtain ⟨c2, cE, eY, eZ, fA, fB, fC, fD, fE, fG, fH, fI, cW, cX⟩ := at_T41 HR0.out a2 aS aT; obtain rfl : a4 = c2 := (by injection cE); replace aS := eq_true aS; replace aT := eq_true aT
    case' L1 | L2 | L3 | L4 | L5 | L6 | L7 =>
      have aU : 0 ≤ (a2 : Int) := qD; have aV : a2 < (l0.length : Int) := qD; obtain ⟨c3, cF, fJ, fK, fL, fM, fN, fO, fP, fQ, fR, fS, cY, cZ⟩ := at_T41 HR0.out a2 aU aV; obtain rfl : a4 = c3 := (by injection cF); replace aU := eq_true aU; replace aV := eq_true aV
    case' L1 | L2 | L3 | L4 | L5 | L6 =>
      have aW : 0 ≤ (a2 : Int) := qD; have aX : a2 < (l0.length : Int) := qD; obtain ⟨c4, cG, fT, fU, fV, fW, fX, fY, fZ, g0, g1, g2, dA, dB⟩ := at_T41 HR0.out a2 aW aX; obtain rfl : a4 = c4 := (by injection cG); replace aW := eq_true aW; replace aX := eq_true aX
    case' L1 | L2 | L3 | L4 | L5 =>
      have aY : 0 ≤ (a2 : Int) := qD; have aZ : a2 < (l0.length : Int) := qD; obtain ⟨c5, cH, g3, g4, g5, g6, g7, g8, g9, gA, gB, gC, dC, dD⟩ := at_T41 HR0.out a2 aY aZ; obtain rfl : a4 = c5 := (by injection cH); replace aY := eq_true aY; replace aZ := eq_true aZ
    case' L1 | L2 | L3 | L4 =>
      have b0 : 0 ≤ (a2 : Int) := qD; have b1 : a2 < (l0.length : Int) := qD; obtain ⟨c6, cI, gD, gF, gG, gH, gI, gJ, gL, gM, gN, gO, dE, dF⟩ := at_T41 HR0.out a2 b0 b1; obtain rfl : a4 = c6 := (by injection cI); replace b0 := eq_true b0; replace b1 := eq_true b1
    case' L1 | L2 | L3 =>
      have b2 : 0 ≤ (a2 : Int) := qD; have b3 : a2 < (l0.length : Int) := qD; obtain ⟨c7, cJ, gP, gQ, gR, gS, gT, gU, gV, gW, gX, gY, dG, dH⟩ := at_T41 HR0.out a2 b2 b3; obtain rfl : a4 = c7 := (by injection cJ); replace b2 := eq_true b2; replace b3 := eq_true b3
    case' L1 | L2 =>
      have b4 : 0 ≤ (a2 : Int) := qD; have b5 : a2 < (l0.length : Int) := qD; obtain ⟨c8, cK, gZ, hA, hD, hE, hF, hG, hH, hI, hJ, hK, dI, dJ⟩ := at_T41 HR0.out a2 b4 b5; obtain rfl : a4 = c8 := (by injection cK); replace b4 := eq_true b4; replace b5 := eq_true b5; go_wp2
    case L1 =>
      go_roundg k1
      case measure => have := cL.out; omega
      exact ⟨(wrap64 ((wrap64 ((wrap64 ((wrap64 ((wrap64 ((wrap64 ((wrap64 ((wrap64 ((wrap64 ((wrap64 ((wrap64 ((wrap64 (a3 + 1)) + 1)) + 1)) + 1)) + 1)) + 1)) + 1)) + 1)) + 1)) + 1)) + 1)) + 1)), (wrap64 (a2 + 1)), qG, qG, H', ⟨by have := cL.out; omega⟩, by repeat (first | exact Drawn0.refl _ | apply Drawn0.step)⟩
    case L2 =>
      go_ret
      exact ⟨by first | rfl | (simp; done) | (simp [*]; done), by repeat (first | exact Drawn0.refl _ | apply Drawn0.step)⟩
    case L3 =>
      go_wp2
      go_ret
      exact ⟨by first | rfl | (simp; done) | (simp [*]; done), by repeat (first | exact Drawn0.refl _ | apply Drawn0.step)⟩
    case L4 =>
      go_wp2
      go_ret
      exact ⟨by first | rfl | (simp; done) | (simp [*]; done), by repeat (first | exact Drawn0.refl _ | apply Drawn0.step)⟩
    case L5 =>
      go_wp2
      go_ret
      exact ⟨by first | rfl | (simp; done) | (simp [*]; done), by repeat (first | exact Drawn0.refl _ | apply Drawn0.step)⟩
    case L6 =>
      go_wp2
      go_ret
      exact ⟨by first | rfl | (simp; done) | (simp [*]; done), by repeat (first | exact Drawn0.refl _ | apply Drawn0.step)⟩
    case L7 =>
      go_wp2
      go_ret
      exact ⟨by first | rfl | (simp; done) | (simp [*]; done), by repeat (first | exact Drawn0.refl _ | apply Drawn0.step)⟩
    case L8 =>
      go_wp2
      go_ret
      exact ⟨by first | rfl | (simp; done) | (simp [*]; done), by repeat (first | exact Drawn0.refl _ | apply Drawn0.step)⟩
    case L9 =>
      go_wp2
      go_ret
      exact ⟨by first | rfl | (simp; done) | (simp [*]; done), by repeat (first | exact Drawn0.refl _ | apply Drawn0.step)⟩
    case L10 =>
      go_wp2
      go_ret
      exact ⟨by first | rfl | (simp; done) | (simp [*]; done), by repeat (first | exact Drawn0.refl _ | apply Drawn0.step)⟩
    case L11 =>
      go_wp2
      go_ret
      exact ⟨by first | rfl | (simp; done) | (simp [*]; done), by repeat (first | exact Drawn0.refl _ | apply Drawn0.step)⟩
    case L12 =>
      go_wp2
      go_ret
      exact ⟨by first | rfl | (simp; done) | (simp [*]; done), by repeat (first | exact Drawn0.refl _ | apply Drawn0.step)⟩
    case L13 =>
      go_wp2
      go_ret
      exact ⟨by first | rfl | (simp; done) | (simp [*]; done), by repeat (first | exact Drawn0.refl _ | apply Drawn0.step)⟩
    case L14 =>
      go_wp2
      go_ret
      exact ⟨by first | rfl | (simp; done) | (simp [*]; done), by repeat (first | exact Drawn0.refl _ | apply Drawn0.step)⟩
      
end Go.Proofs.Ytdngjedhbnoaoaa.PBig
