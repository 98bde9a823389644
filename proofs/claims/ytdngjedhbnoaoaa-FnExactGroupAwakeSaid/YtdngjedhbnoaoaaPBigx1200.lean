/- What these functions compute, each walked once: impl_Body_sleeps, impl_Body_fixed, impl_in, impl_ShapeOk, impl_isPlace, impl_within, impl_Vec_clamped, impl_isDrive, impl_BodyOk; for all arguments and worlds, under the conditions that each theorem names. -/
import Derived.Test.YtdngjedhbnoaoaaSq
import Derived.Test.YtdngjedhbnoaoaaPBigx1201
namespace Go.Proofs.Ytdngjedhbnoaoaa.PBig
open Go.RowKit Go.Proofs.YtdngjedhbnoaoaaW.PrintWords Go.Proofs.YtdngjedhbnoaoaaW.PrintLast Go.Proofs.YtdngjedhbnoaoaaW.PrintMore
attribute [local go_sem] max2_int min2_int max_two min_two max_three min_three max_four min_four   -- for this text's walks alone
set_option linter.unusedVariables false
set_option linter.unusedSimpArgs false

/-! ### impl_Body_sleeps: function 56 -/
def impl_Body_sleeps.f (a2 : Int) (a3 : Int) (a4 : Int) (a5 : Int) (a6 : Int) (a7 : Int) (a8 : Int) (a9 : Int) (aA : Int) (aB : Int) (a1 : Int) (a0 : Int) : Option (Bool) := some (a0 == 8)
set_option maxHeartbeats 8000000 in
set_option maxRecDepth 100000 in
theorem impl_Body_sleeps.calls (a2 : Int) (a3 : Int) (a4 : Int) (a5 : Int) (a6 : Int) (a7 : Int) (a8 : Int) (a9 : Int) (aA : Int) (aB : Int) (a1 : Int) (a0 : Int) (r : Bool) (w : World) (h : impl_Body_sleeps.f a2 a3 a4 a5 a6 a7 a8 a9 aA aB a1 a0 = some r) :
    Calls Try.prog 56 #[.agg #[.int .i64 a2, .int .i64 a3, .int .i64 a4, .int .i64 a5, .int .i64 a6, .int .i64 a7, .int .i64 a8, .int .i64 a9, .int .i64 aA, .int .i64 aB, .int .i64 a1, .int .i64 a0]] w fun e w' => e = .returned (.bool r) ∧ Below w.heap.size w w' := by
  have hu41 := Try.underlying41; have HB := az (Below.refl w.heap.size w); have H : (some (a0 == 8)) = some r := h; clear h; obtain rfl := Option.some.inj H; go_enter Try.func56, Try.ntmps56; go_wp2_with (first | ((with_reducible refine gate_dst (N := 1) rfl ?_); refine bx (N := 1) (cs := #[.int .i64 a2, .int .i64 a3, .int .i64 a4, .int .i64 a5, .int .i64 a6, .int .i64 a7, .int .i64 a8, .int .i64 a9, .int .i64 aA, .int .i64 aB, .int .i64 a1, .int .i64 a0]) (t := 41) ?_; intro aD hg w2 hbox hb; have aC := az hbox; have aE := az ((gE hg (qL HB) : w.heap.size ≤ aD)); have b3 := aE; replace HB := bS HB hb; clear hb hbox hg; obtain ⟨aJ, aK, aL, aM, aN, aO, aP, aQ, aR, aS, aF, aG⟩ := cz12 aC.out; obtain ⟨aT, aU, aV, aW, aX, aY, aZ, b0, b1, b2, aH, aI⟩ := fz12 aC.out))
  go_ret
  exact ⟨qE, qL HB⟩

/-! ### impl_Body_fixed: function 51 -/
def impl_Body_fixed.f (a3 : Int) (a4 : Int) (a5 : Int) (a6 : Int) (a7 : Int) (a8 : Int) (a9 : Int) (aA : Int) (a0 : Int) (aB : Int) (a1 : Int) (a2 : Int) : Option (Bool) := some (a0 == 0)
set_option maxHeartbeats 8000000 in
set_option maxRecDepth 100000 in
theorem impl_Body_fixed.calls (a3 : Int) (a4 : Int) (a5 : Int) (a6 : Int) (a7 : Int) (a8 : Int) (a9 : Int) (aA : Int) (a0 : Int) (aB : Int) (a1 : Int) (a2 : Int) (r : Bool) (w : World) (h : impl_Body_fixed.f a3 a4 a5 a6 a7 a8 a9 aA a0 aB a1 a2 = some r) :
    Calls Try.prog 51 #[.agg #[.int .i64 a3, .int .i64 a4, .int .i64 a5, .int .i64 a6, .int .i64 a7, .int .i64 a8, .int .i64 a9, .int .i64 aA, .int .i64 a0, .int .i64 aB, .int .i64 a1, .int .i64 a2]] w fun e w' => e = .returned (.bool r) ∧ Below w.heap.size w w' := by
  have hu41 := Try.underlying41; have HB := az (Below.refl w.heap.size w); have H : (some (a0 == 0)) = some r := h; clear h; obtain rfl := Option.some.inj H; go_enter Try.func51, Try.ntmps51; go_wp2_with (first | ((with_reducible refine gate_dst (N := 1) rfl ?_); refine bx (N := 1) (cs := #[.int .i64 a3, .int .i64 a4, .int .i64 a5, .int .i64 a6, .int .i64 a7, .int .i64 a8, .int .i64 a9, .int .i64 aA, .int .i64 a0, .int .i64 aB, .int .i64 a1, .int .i64 a2]) (t := 41) ?_; intro aD hg w2 hbox hb; have aC := az hbox; have aE := az ((gE hg (qL HB) : w.heap.size ≤ aD)); have b3 := aE; replace HB := bS HB hb; clear hb hbox hg; obtain ⟨aJ, aK, aL, aM, aN, aO, aP, aQ, aR, aS, aF, aG⟩ := cz12 aC.out; obtain ⟨aT, aU, aV, aW, aX, aY, aZ, b0, b1, b2, aH, aI⟩ := fz12 aC.out))
  go_ret
  exact ⟨qE, qL HB⟩

/-! ### impl_in: function 82 -/
def impl_in.f (a0 : Int) (a1 : Int) (a2 : Int) : Option (Bool) := if a0 ≥ a1 then (some (decide (a0 ≤ a2))) else (some false)
set_option maxHeartbeats 8000000 in
set_option maxRecDepth 100000 in
theorem impl_in.calls (a0 : Int) (a1 : Int) (a2 : Int) (r : Bool) (w : World) (h : impl_in.f a0 a1 a2 = some r) :
    Calls Try.prog 82 #[.int .i64 a0, .int .i64 a1, .int .i64 a2] w fun e w' => e = .returned (.bool r) ∧ Drawn0 w w' := by
  have H : (if a0 ≥ a1 then (some (decide (a0 ≤ a2))) else (some false)) = some r := h; clear h; by_cases c4 : a0 ≥ a1
  · rw [if_pos c4] at H; have a3 : decide (a1 ≤ a0) = true := decide_eq_true c4; clear c4; obtain rfl := Option.some.inj H; go_enter Try.func82, Try.ntmps82; go_wp2
    go_ret
    exact ⟨by first | rfl | (simp; done) | (simp [*]; done), by repeat (first | exact Drawn0.refl _ | apply Drawn0.step)⟩
  rw [if_neg c4] at H; have a3 : decide (a1 ≤ a0) = false := decide_eq_false c4; clear c4; obtain rfl := Option.some.inj H; go_enter Try.func82, Try.ntmps82; go_wp2
  go_ret
  exact ⟨by first | rfl | (simp; done) | (simp [*]; done), by repeat (first | exact Drawn0.refl _ | apply Drawn0.step)⟩

/-! ### impl_ShapeOk: function 65 -/
def impl_ShapeOk.f (a0 : Int) (a1 : Int) (a3 : Int) : Option (Bool) := if a0 = 1 then ((impl_in.f a1 1 25600).bind fun a8 => (if a8 = true then (some (a3 == 0)) else (some false))) else (if a0 = 2 then ((impl_in.f a1 1 25600).bind fun a9 => (if a9 = true then ((impl_in.f a3 1 25600).bind fun aA => (some aA)) else (some false))) else (some false))
set_option maxHeartbeats 8000000 in
set_option maxRecDepth 100000 in
theorem impl_ShapeOk.calls (a0 : Int) (a1 : Int) (a3 : Int) (r : Bool) (w : World) (h : impl_ShapeOk.f a0 a1 a3 = some r) :
    Calls Try.prog 65 #[.agg #[.int .i64 a0, .int .i64 a1, .int .i64 a3]] w fun e w' => e = .returned (.bool r) ∧ Below w.heap.size w w' := by
  have hu39 := Try.underlying39; have HB := az (Below.refl w.heap.size w); have H : (if a0 = 1 then ((impl_in.f a1 1 25600).bind fun a8 => (if a8 = true then (some (a3 == 0)) else (some false))) else (if a0 = 2 then ((impl_in.f a1 1 25600).bind fun a9 => (if a9 = true then ((impl_in.f a3 1 25600).bind fun aA => (some aA)) else (some false))) else (some false))) = some r := h; clear h; by_cases a4 : a0 = 1; rw [if_pos a4] at H; have aC : (a0 == 1) = true := beq_iff_eq.mpr a4; have aD : (a0 != 1) = false := bne_eq_false_iff_eq.mpr a4; clear a4; replace H := qH H; obtain ⟨a7, a6, H⟩ := H
  try dsimp only at H
  by_cases a2 : a7 = true; subst a2; replace H := qT H; obtain rfl := Option.some.inj H; refine ?L1; rotate_left; replace a2 := Bool.eq_false_iff.mpr a2; subst a2; replace H := qU H; obtain rfl := Option.some.inj H; refine ?L2
  rotate_right
  rotate_left 2
  rw [if_neg a4] at H; have aC : (a0 == 1) = false := beq_eq_false_iff_ne.mpr a4; have aD : (a0 != 1) = true := bne_iff_ne.mpr a4; by_cases a5 : a0 = 2; rw [if_pos a5] at H; have aE : (a0 == 2) = true := beq_iff_eq.mpr a5; have aF : (a0 != 2) = false := bne_eq_false_iff_eq.mpr a5; clear a5; replace H := qH H; obtain ⟨a7, a6, H⟩ := H
  try dsimp only at H
  by_cases a2 : a7 = true; subst a2; replace H := qT H; replace H := qH H; obtain ⟨aG, aH, H⟩ := H
  try dsimp only at H
  obtain rfl := Option.some.inj H; refine ?L3; rotate_left; replace a2 := Bool.eq_false_iff.mpr a2; subst a2; replace H := qU H; obtain rfl := Option.some.inj H; refine ?L4
  rotate_right
  rotate_left 2
  rw [if_neg a5] at H; have aE : (a0 == 2) = false := beq_eq_false_iff_ne.mpr a5; have aF : (a0 != 2) = true := bne_iff_ne.mpr a5; obtain rfl := Option.some.inj H; refine ?L5
  rotate_right 2
  rotate_right 2
  case' L1 | L2 | L3 | L4 | L5 =>
    go_enter Try.func65, Try.ntmps65; go_wp2_with (first | ((with_reducible refine gate_dst (N := 1) rfl ?_); refine bx (N := 1) (cs := #[.int .i64 a0, .int .i64 a1, .int .i64 a3]) (t := 39) ?_; intro aI hg w5 hbox hb; have aB := az hbox; have aJ := az ((gE hg (qL HB) : w.heap.size ≤ aI)); have aQ := aJ; replace HB := bS HB hb; clear hb hbox hg; obtain ⟨aK, aL, aM⟩ := cz3 aB.out; obtain ⟨aN, aO, aP⟩ := fz3 aB.out) | ((with_reducible refine gate_callee (f := 82) rfl ?_); refine gl (some 9) Try.func82 #[.int .i64 a1, .int .i64 1, .int .i64 25600] ?_; (with_reducible refine (impl_in.calls a1 1 25600 true _ a6.out).mono ?_); rintro e w' ⟨rfl, ⟨nd, rfl⟩⟩; refine ⟨_, rfl, ?_⟩) | ((with_reducible refine gate_callee (f := 82) rfl ?_); refine gl (some 9) Try.func82 #[.int .i64 a1, .int .i64 1, .int .i64 25600] ?_; (with_reducible refine (impl_in.calls a1 1 25600 false _ a6.out).mono ?_); rintro e w' ⟨rfl, ⟨nd, rfl⟩⟩; refine ⟨_, rfl, ?_⟩) | ((with_reducible refine gate_callee (f := 82) rfl ?_); refine gl (some 19) Try.func82 #[.int .i64 a1, .int .i64 1, .int .i64 25600] ?_; (with_reducible refine (impl_in.calls a1 1 25600 true _ a6.out).mono ?_); rintro e w' ⟨rfl, ⟨nd, rfl⟩⟩; refine ⟨_, rfl, ?_⟩) | (go_at_call 82; (with_reducible refine (impl_in.calls a3 1 25600 aG _ aH.out).mono ?_); rintro e w' ⟨rfl, ⟨nd, rfl⟩⟩) | ((with_reducible refine gate_callee (f := 82) rfl ?_); refine gl (some 19) Try.func82 #[.int .i64 a1, .int .i64 1, .int .i64 25600] ?_; (with_reducible refine (impl_in.calls a1 1 25600 false _ a6.out).mono ?_); rintro e w' ⟨rfl, ⟨nd, rfl⟩⟩; refine ⟨_, rfl, ?_⟩))
    go_ret
  case' L1 | L2 | L3 | L4 =>
    exact ⟨qE, qL HB⟩
  case L5 =>
    exact ⟨qE, qL HB⟩
    

/-! ### impl_isPlace: function 66 -/
def impl_isPlace.f (a0 : Int) (a1 : Int) : Option (Bool) := (impl_in.f a0 (-2560000) 2560000).bind fun a4 => (if a4 = true then ((impl_in.f a1 (-2560000) 2560000).bind fun a5 => (some a5)) else (some false))
set_option maxHeartbeats 8000000 in
set_option maxRecDepth 100000 in
theorem impl_isPlace.calls (a0 : Int) (a1 : Int) (r : Bool) (w : World) (h : impl_isPlace.f a0 a1 = some r) :
    Calls Try.prog 66 #[.agg #[.int .i64 a0, .int .i64 a1]] w fun e w' => e = .returned (.bool r) ∧ Below w.heap.size w w' := by
  have hu33 := Try.underlying33; have HB := az (Below.refl w.heap.size w); have H : ((impl_in.f a0 (-2560000) 2560000).bind fun a4 => (if a4 = true then ((impl_in.f a1 (-2560000) 2560000).bind fun a5 => (some a5)) else (some false))) = some r := h; clear h; replace H := qH H; obtain ⟨a7, a6, H⟩ := H
  try dsimp only at H
  by_cases a2 : a7 = true; subst a2; replace H := qT H; replace H := qH H; obtain ⟨a8, a9, H⟩ := H
  try dsimp only at H
  obtain rfl := Option.some.inj H; refine ?L1; rotate_left; replace a2 := Bool.eq_false_iff.mpr a2; subst a2; replace H := qU H; obtain rfl := Option.some.inj H; refine ?L2
  rotate_right
  case' L1 | L2 =>
    go_enter Try.func66, Try.ntmps66; go_wp2_with (first | ((with_reducible refine gate_dst (N := 1) rfl ?_); refine bx (N := 1) (cs := #[.int .i64 a0, .int .i64 a1]) (t := 33) ?_; intro aA hg w5 hbox hb; have a3 := az hbox; have aB := az ((gE hg (qL HB) : w.heap.size ≤ aA)); have aG := aB; replace HB := bS HB hb; clear hb hbox hg; obtain ⟨aC, aD⟩ := cz2 a3.out; have aE := blk_frozen a3.out 0; have aF := blk_frozen a3.out 1) | ((with_reducible refine gate_callee (f := 82) rfl ?_); refine gl (some 5) Try.func82 #[.int .i64 a0, .int .i64 (-2560000), .int .i64 2560000] ?_; (with_reducible refine (impl_in.calls a0 (-2560000) 2560000 true _ a6.out).mono ?_); rintro e w' ⟨rfl, ⟨nd, rfl⟩⟩; refine ⟨_, rfl, ?_⟩) | (go_at_call 82; (with_reducible refine (impl_in.calls a1 (-2560000) 2560000 a8 _ a9.out).mono ?_); rintro e w' ⟨rfl, ⟨nd, rfl⟩⟩) | ((with_reducible refine gate_callee (f := 82) rfl ?_); refine gl (some 5) Try.func82 #[.int .i64 a0, .int .i64 (-2560000), .int .i64 2560000] ?_; (with_reducible refine (impl_in.calls a0 (-2560000) 2560000 false _ a6.out).mono ?_); rintro e w' ⟨rfl, ⟨nd, rfl⟩⟩; refine ⟨_, rfl, ?_⟩))
    go_ret
  case L1 =>
    exact ⟨qE, qL HB⟩
  case L2 =>
    exact ⟨qE, qL HB⟩
    

/-! ### impl_within: function 128 -/
def impl_within.f (a0 : Int) (a1 : Int) : Option (Int) := some (mx (wrap64 (-a1)) (mn a0 a1))
set_option maxHeartbeats 8000000 in
set_option maxRecDepth 100000 in
theorem impl_within.calls (a0 : Int) (a1 : Int) (r : Int) (w : World) (h : impl_within.f a0 a1 = some r) :
    Calls Try.prog 128 #[.int .i64 a0, .int .i64 a1] w fun e w' => e = .returned (.int .i64 r) ∧ Below w.heap.size w w' := by
  have HB := az (Below.refl w.heap.size w); have H : (some (mx (wrap64 (-a1)) (mn a0 a1))) = some r := h; clear h; obtain ⟨ji3, hji3⟩ : ∃ j_ : Int, (mn a0 a1) = j_ := ⟨_, rfl⟩
  replace H : (some (mx (wrap64 (-a1)) (ji3))) = some r := by first | (rw [hji3] at H; exact H) | (simp only [hji3] at H ⊢; exact H)
  have hji3_ : (if a1 < a0 then a1 else a0) = ji3 := hji3; obtain ⟨ji4, hji4⟩ : ∃ j_ : Int, (mx (wrap64 (-a1)) (ji3)) = j_ := ⟨_, rfl⟩
  replace H : (some ji4) = some r := by first | (rw [hji4] at H; exact H) | (simp only [hji4] at H ⊢; exact H)
  have hji4_ : (if (wrap64 (-a1)) < (ji3) then (ji3) else (wrap64 (-a1))) = ji4 := hji4; obtain rfl := Option.some.inj H; go_enter Try.func128, Try.ntmps128; go_wp2
  go_ret
  exact ⟨by first | rfl | (simp [errW_none, errW_some] <;> rfl) | (simp only [← hji3, ← hji4]; first | rfl | (simp [errW_none, errW_some] <;> rfl)) | (simp [*, errW_none, errW_some] <;> rfl), qL HB⟩

/-! ### impl_Vec_clamped: function 107 -/
def impl_Vec_clamped.f (a4 : Int) (a5 : Int) (a1 : Int) : Option (Int × Int) := (impl_within.f a4 a1).bind fun a6 => ((impl_within.f a5 a1).bind fun a7 => (some (a6, a7)))
def impl_Vec_clamped.T1 : Bool × List (List Nat × List Nat) := (true, [([], []), ([0], [0]), ([], []), ([1, 2], [1, 2]), ([], []), ([4], [4]), ([], []), ([5, 6, 3], [5, 6]), ([3, 7], [3, 7]), ([8, 7, 0, 1, 2, 3, 4, 5, 6, 7, 8], [8])])
def impl_Vec_clamped.B1 : List Nat := [0, 1, 0, 7, 0, 16, 0, 127, 255, 511]
theorem impl_Vec_clamped.tab1 : rtab .any (opsOf Try.f107 1) = impl_Vec_clamped.T1 := by kernel_rfl
theorem impl_Vec_clamped.bits1 : waitsOk impl_Vec_clamped.T1.2 impl_Vec_clamped.B1 = true := by kernel_rfl
set_option maxHeartbeats 8000000 in
set_option maxRecDepth 100000 in
theorem impl_Vec_clamped.calls (a4 : Int) (a5 : Int) (a1 : Int) (r1 : Int) (r2 : Int) (w : World) (h : impl_Vec_clamped.f a4 a5 a1 = some (r1, r2)) :
    Calls Try.prog 107 #[.agg #[.int .i64 a4, .int .i64 a5], .int .i64 a1] w fun e w' => e = .returned (.agg #[.int .i64 r1, .int .i64 r2]) ∧ Below w.heap.size w w' := by
  have hu33 := Try.underlying33; have HB := az (Below.refl w.heap.size w); have H : ((impl_within.f a4 a1).bind fun a6 => ((impl_within.f a5 a1).bind fun a7 => (some (a6, a7)))) = some (r1, r2) := h; clear h; replace H := qH H; obtain ⟨a6, A3, H⟩ := H
  try dsimp only at H
  replace H := qH H; obtain ⟨a7, A4, H⟩ := H
  try dsimp only at H
  simp only [Option.some.injEq, Prod.mk.injEq] at H; obtain ⟨rfl, rfl⟩ := H; go_enter Try.func107, Try.ntmps107
  try go_wp2_with (first | ((with_reducible refine gate_dst (N := 2) rfl ?_); refine bx (N := 2) (cs := #[.int .i64 a4, .int .i64 a5]) (t := 33) ?_; intro aA hg w5 hbox hb; have a0 := az hbox; have aB := az ((gE hg (qL HB) : w.heap.size ≤ aA)); have aH := aB; replace HB := bS HB hb; clear hb hbox hg) | ((with_reducible refine gate_dst (N := 4) rfl ?_); refine bz2 (N := 4) (t := 33) ?_; intro a9 hg w6 hbox hb; have a2 := az hbox; have aC := az ((gE hg (qL HB) : w.heap.size ≤ a9)); have aI := aC; obtain ⟨a3, a8⟩ := nPB a0 hg; replace a0 := kBB a0 hb; replace HB := bS HB hb; clear hb hbox hg))
  replace a0 := az (blk_drew a0.out); replace a2 := az (blk_drew a2.out); replace HB := az (below_drew1 HB.out); refine start_ (n := 10) (S := fun w' => w'.cell? ⟨aA, 0, none⟩ = some (.int .i64 a4) ∧ w'.cell? ⟨aA, 1, none⟩ = some (.int .i64 a5)) (ds := []) #[false, false, false, false, false, false, false, false, false, false] (by kernel_rfl) rfl rfl ⟨bc a0 0, bc a0 1⟩ (fun hHeld => ?_); refine with_tabW impl_Vec_clamped.tab1 impl_Vec_clamped.bits1 (fun HT_ HW_ => ?_); generalize w6.drew = w7 at a0 a2 HB hHeld ⊢; refine pu 0 (some 5) (fl 10 1) HT_ ?_; refine pu 2 (some 7) (fl 10 5) HT_ ?_; refine pu 4 (some 9) (fl 10 21) HT_ ?_; refine pu 6 (some 11) (fl 10 85) HT_ ?_; refine tk2 1 (some 6) (fl 10 87) HT_ HW_ hHeld ?_; refine tk2 5 (some 10) (fl 10 119) HT_ HW_ hHeld ?_; refine on 3 (some 8) (fl 10 127) HT_ (fun K hK => ?_); refine go1 Try.func128 #[.int .i64 a4, .int .i64 a1] ?_
  with_reducible refine (impl_within.calls a4 a1 a6 _ A3.out).mono ?_
  rintro e w8 ⟨rfl, hb⟩; refine ⟨_, rfl, ?_⟩; replace a0 := kBB a0 hb; replace a2 := kBB a2 hb; replace HB := bS HB hb; clear hb; refine hK.out _ _ ⟨bc a0 0, bc a0 1⟩ (fun hHeld => ?_); clear hK K; refine nm (some 8) ?_; refine on 7 (some 12) (fl 10 255) HT_ (fun K hK => ?_); refine go1 Try.func128 #[.int .i64 a5, .int .i64 a1] ?_
  with_reducible refine (impl_within.calls a5 a1 a7 _ A4.out).mono ?_
  rintro e w9 ⟨rfl, hb⟩; refine ⟨_, rfl, ?_⟩; replace a0 := kBB a0 hb; replace a2 := kBB a2 hb; replace HB := bS HB hb; clear hb; refine hK.out _ _ ⟨bc a0 0, bc a0 1⟩ (fun hHeld => ?_); clear hK K; refine nm (some 12) ?_; refine pu 8 (some 13) (fl 10 511) HT_ ?_; refine on 9 (none) (fl 10 1023) HT_ (fun K hK => ?_); have aL : w9.cell? ⟨a9, 0, none⟩ = some (.int .i64 0) := bc a2 0; have aJ := blk_frozen a2.out 0; have aD := a3.out; have aE := a8.out; have aM : w9.cell? ⟨a9, 1, none⟩ = some (.int .i64 0) := bc a2 1; have aK := blk_frozen a2.out 1; have aF := a3.out; have aG := a8.out; refine skip_ (w1 := ?_) ?hw ?hn ?_ ?_; (case hw => unfold Region.wanted; rfl); (case hn => rfl); rotate_left
  · go_simp
    rfl
  refine hK.out _ _ ⟨(cf a3 ((cf a3 (hHeld.1)))), (cf a3 ((cf a3 (hHeld.2))))⟩ (fun hHeld => ?_); clear hK K; refine done_ (done_of HT_.out (by kernel_rfl)) ?_
  try go_wp2
  refine bodyPost_ret (results_cell_row rfl _ _ a9 33 #[.int .i64 a6, .int .i64 a7] (0, 0) _ rfl (qP a2) Try.underlying33 rfl (by kernel_rfl)) rfl ?_; exact ⟨qE, qL HB⟩

attribute [local go_sem high] eqA33
/-! ### impl_isDrive: function 83 -/
def impl_isDrive.f (a1 : Int) (a2 : Int) : Option (Bool) := (impl_Vec_clamped.f a1 a2 20000000).bind fun bt857 => (some (a1 == bt857.1 && (a2 == bt857.2)))
set_option maxHeartbeats 8000000 in
set_option maxRecDepth 100000 in
theorem impl_isDrive.calls (a1 : Int) (a2 : Int) (r : Bool) (w : World) (h : impl_isDrive.f a1 a2 = some r) :
    Calls Try.prog 83 #[.agg #[.int .i64 a1, .int .i64 a2]] w fun e w' => e = .returned (.bool r) ∧ Below w.heap.size w w' := by
  have hu33 := Try.underlying33; have HB := az (Below.refl w.heap.size w); have H : ((impl_Vec_clamped.f a1 a2 20000000).bind fun bt857 => (some (a1 == bt857.1 && (a2 == bt857.2)))) = some r := h; clear h; replace H := qH H; obtain ⟨⟨a5, a6⟩, A2, H⟩ := H
  try dsimp only at H
  obtain rfl := Option.some.inj H; go_enter Try.func83, Try.ntmps83
  try go_wp2_with (first | ((with_reducible refine gate_dst (N := 1) rfl ?_); refine bx (N := 1) (cs := #[.int .i64 a1, .int .i64 a2]) (t := 33) ?_; intro a3 hg w3 hbox hb; have a0 := az hbox; have a4 := az ((gE hg (qL HB) : w.heap.size ≤ a3)); have a7 := a4; replace HB := bS HB hb; clear hb hbox hg))
  replace a0 := az (blk_drew a0.out); replace HB := az (below_drew1 HB.out); refine start_ (n := 5) (S := fun w' => w'.cell? ⟨a3, 0, none⟩ = some (.int .i64 a1) ∧ w'.cell? ⟨a3, 1, none⟩ = some (.int .i64 a2)) (ds := []) #[false, false, false, false, false] (by kernel_rfl) rfl rfl ⟨bc a0 0, bc a0 1⟩ (fun hHeld => ?_); generalize w3.drew = w4 at a0 HB hHeld ⊢; refine take_ (i := 0) (N := some 3) (v := ?_) (a' := ?_) #[true, false, false, false, false] rfl rfl (by kernel_rfl) (fun _ _ _ h => h) (Or.inl ⟨by rfl, ?_⟩) hHeld ?_ ?_; rotate_left
  · rintro w' ⟨s0, s1⟩
    go_simp
    with_reducible rfl
  rotate_left
  · simp only [Act.put, List.setIfInBounds_toArray, List.set_cons_zero, List.set_cons_succ, i64_w, i32_w]
    rfl
  refine take_ (i := 1) (N := some 4) (v := ?_) (a' := ?_) #[true, true, false, false, false] rfl rfl (by kernel_rfl) (fun _ _ _ h => h) (Or.inl ⟨by rfl, ?_⟩) hHeld ?_ ?_; rotate_left
  · rintro w' ⟨s0, s1⟩
    go_simp
    with_reducible rfl
  rotate_left
  · simp only [Act.put, List.setIfInBounds_toArray, List.set_cons_zero, List.set_cons_succ, i64_w, i32_w]
    rfl
  refine one_ (i := 2) (N := some 5) #[true, true, true, false, false] rfl rfl (by kernel_rfl) (by decide) (fun K hK => ?_); refine go1 Try.func107 #[.agg #[.int .i64 a1, .int .i64 a2], .int .i64 20000000] ?_
  with_reducible refine (impl_Vec_clamped.calls a1 a2 20000000 a5 a6 _ A2.out).mono ?_
  rintro e w5 ⟨rfl, hb⟩; refine ⟨_, rfl, ?_⟩; replace a0 := kBB a0 hb; replace HB := bS HB hb; clear hb; refine hK.out _ _ ⟨bc a0 0, bc a0 1⟩ (fun hHeld => ?_); clear hK K; refine nm (some 5) ?_; refine pure_ (i := 3) (N := some 6) (v := ?_) (a' := ?_) #[true, true, true, true, false] rfl rfl (by kernel_rfl) (fun _ _ _ h => h) (Or.inl ⟨by rfl, ?_⟩) ?_ ?_; rotate_left
  · intro w'
    go_simp
    with_reducible rfl
  rotate_left
  · simp only [Act.put, List.setIfInBounds_toArray, List.set_cons_zero, List.set_cons_succ, i64_w, i32_w]
    rfl
  refine pure_ (i := 4) (N := some 2) (v := ?_) (a' := ?_) #[true, true, true, true, true] rfl rfl (by kernel_rfl) (fun _ _ _ h => h) (Or.inl ⟨by rfl, ?_⟩) ?_ ?_; rotate_left
  · intro w'
    go_simp
    with_reducible rfl
  rotate_left
  · simp only [Act.put, List.setIfInBounds_toArray, List.set_cons_zero, List.set_cons_succ, i64_w, i32_w]
    rfl
  refine done_ (by kernel_rfl) ?_
  try go_wp2
  go_ret
  exact ⟨qE, qL HB⟩

attribute [local go_sem high] eqA33
/-! ### impl_BodyOk: function 58 -/
mutual
def impl_BodyOk.j0 : Nat → Bool → Int → Int → Int → Int → Int → Int → Int → Int → Int → Int → Int → Int → Option (Bool)
  | 0, _, _, _, _, _, _, _, _, _, _, _, _, _ => none
  | k + 1, mR, aU, aV, aW, aX, aY, aZ, aN, aO, b0, aR, aS, aQ => if mR = true then (some false) else ((impl_in.f aR 0 256).bind fun cC => (if cC = true then ((impl_in.f aS 0 256).bind fun cD => (if cD = true then ((impl_in.f aQ 0 8).bind fun cE => (impl_BodyOk.j1 k (!cE) aU aV aW aX aY aZ aN aO b0 aR aS aQ)) else (impl_BodyOk.j1 k true aU aV aW aX aY aZ aN aO b0 aR aS aQ))) else (impl_BodyOk.j1 k true aU aV aW aX aY aZ aN aO b0 aR aS aQ)))
def impl_BodyOk.j1 : Nat → Bool → Int → Int → Int → Int → Int → Int → Int → Int → Int → Int → Int → Int → Option (Bool)
  | 0, _, _, _, _, _, _, _, _, _, _, _, _, _ => none
  | k + 1, mS, aU, aV, aW, aX, aY, aZ, aN, aO, b0, aR, aS, aQ => if mS = true then (some false) else ((impl_Body_fixed.f aU aV aW aX aY aZ aN aO b0 aR aS aQ).bind fun cF => (if cF = true then (if (aN == 0 && (aO == 0)) = true then (if aQ = 0 then ((impl_Body_sleeps.f aU aV aW aX aY aZ aN aO b0 aR aS aQ).bind fun cG => (if cG = true then (some (aN == 0 && (aO == 0))) else (some true))) else (some false)) else (some false)) else ((impl_Body_sleeps.f aU aV aW aX aY aZ aN aO b0 aR aS aQ).bind fun cH => (if cH = true then (some (aN == 0 && (aO == 0))) else (some true)))))
end
def impl_BodyOk.f (k : Nat) (aF : Int) (aG : Int) (aH : Int) (aI : Int) (aJ : Int) (aK : Int) (aC : Int) (aD : Int) (aM : Int) (aL : Int) (aE : Int) (aB : Int) : Option (Bool) := (impl_in.f aF 0 999999999).bind fun bJ => (if bJ = true then ((impl_ShapeOk.f aG aH aI).bind fun bK => (if bK = true then ((impl_isPlace.f aJ aK).bind fun bL => (if bL = true then ((impl_isDrive.f aC aD).bind fun bM => (if bM = true then ((impl_in.f aM 0 1000).bind fun bN => (impl_BodyOk.j0 k (!bN) aF aG aH aI aJ aK aC aD aM aL aE aB)) else (impl_BodyOk.j0 k true aF aG aH aI aJ aK aC aD aM aL aE aB))) else (impl_BodyOk.j0 k true aF aG aH aI aJ aK aC aD aM aL aE aB))) else (impl_BodyOk.j0 k true aF aG aH aI aJ aK aC aD aM aL aE aB))) else (impl_BodyOk.j0 k true aF aG aH aI aJ aK aC aD aM aL aE aB))
theorem impl_BodyOk.mono_l : ∀ k, (∀ y0 y1 y2 y3 y4 y5 y6 y7 y8 y9 bE bF bG, LeO (impl_BodyOk.j0 k y0 y1 y2 y3 y4 y5 y6 y7 y8 y9 bE bF bG) (impl_BodyOk.j0 (k + 1) y0 y1 y2 y3 y4 y5 y6 y7 y8 y9 bE bF bG)) ∧ (∀ y0 y1 y2 y3 y4 y5 y6 y7 y8 y9 bE bF bG, LeO (impl_BodyOk.j1 k y0 y1 y2 y3 y4 y5 y6 y7 y8 y9 bE bF bG) (impl_BodyOk.j1 (k + 1) y0 y1 y2 y3 y4 y5 y6 y7 y8 y9 bE bF bG))
  | 0 => ⟨fun _ _ _ _ _ _ _ _ _ _ _ _ _ r h => by simp [impl_BodyOk.j0] at h, fun _ _ _ _ _ _ _ _ _ _ _ _ _ r h => by simp [impl_BodyOk.j1] at h⟩
  | k + 1 => by
    obtain ⟨ih0, ih1⟩ := impl_BodyOk.mono_l k
    refine ⟨?_, ?_⟩
    · intro y0 y1 y2 y3 y4 y5 y6 y7 y8 y9 bE bF bG
      unfold impl_BodyOk.j0
      repeat' first
      | (with_reducible exact ih0 _ _ _ _ _ _ _ _ _ _ _ _ _)
      | (with_reducible exact ih1 _ _ _ _ _ _ _ _ _ _ _ _ _)
      | (with_reducible exact LeO.refl _)
      | (with_reducible exact LeO.none _)
      | (with_reducible refine LeO.ite ?_ ?_)
      | (with_reducible refine LeO.bind ?_ (fun _ => ?_))
    · intro y0 y1 y2 y3 y4 y5 y6 y7 y8 y9 bE bF bG
      unfold impl_BodyOk.j1
      repeat' first
      | (with_reducible exact ih0 _ _ _ _ _ _ _ _ _ _ _ _ _)
      | (with_reducible exact ih1 _ _ _ _ _ _ _ _ _ _ _ _ _)
      | (with_reducible exact LeO.refl _)
      | (with_reducible exact LeO.none _)
      | (with_reducible refine LeO.ite ?_ ?_)
      | (with_reducible refine LeO.bind ?_ (fun _ => ?_))
theorem impl_BodyOk.mono : ∀ a0 a1 a2 a3 a4 a5 a6 a7 a8 a9 c1 c2 k, LeO (impl_BodyOk.f k a0 a1 a2 a3 a4 a5 a6 a7 a8 a9 c1 c2) (impl_BodyOk.f (k + 1) a0 a1 a2 a3 a4 a5 a6 a7 a8 a9 c1 c2) := by
  intro a0 a1 a2 a3 a4 a5 a6 a7 a8 a9 c1 c2 k
  obtain ⟨ih0, ih1⟩ := impl_BodyOk.mono_l k
  unfold impl_BodyOk.f
  repeat' first
      | (with_reducible exact ih0 _ _ _ _ _ _ _ _ _ _ _ _ _)
      | (with_reducible exact ih1 _ _ _ _ _ _ _ _ _ _ _ _ _)
      | (with_reducible exact LeO.refl _)
      | (with_reducible exact LeO.none _)
      | (with_reducible refine LeO.ite ?_ ?_)
      | (with_reducible refine LeO.bind ?_ (fun _ => ?_))
set_option maxHeartbeats 8000000 in
set_option maxRecDepth 100000 in
theorem impl_BodyOk.calls (k : Nat) (aF : Int) (aG : Int) (aH : Int) (aI : Int) (aJ : Int) (aK : Int) (aC : Int) (aD : Int) (aM : Int) (aL : Int) (aE : Int) (aB : Int) (r : Bool) (w : World) (h : impl_BodyOk.f k aF aG aH aI aJ aK aC aD aM aL aE aB = some r) :
    Calls Try.prog 58 #[.agg #[.int .i64 aF, .int .i64 aG, .int .i64 aH, .int .i64 aI, .int .i64 aJ, .int .i64 aK, .int .i64 aC, .int .i64 aD, .int .i64 aM, .int .i64 aL, .int .i64 aE, .int .i64 aB]] w fun e w' => e = .returned (.bool r) ∧ Below w.heap.size w w' := by
  have hu41 := Try.underlying41; have hu39 := Try.underlying39; have hu33 := Try.underlying33; have HB := az (Below.refl w.heap.size w); have H : ((impl_in.f aF 0 999999999).bind fun bJ => (if bJ = true then ((impl_ShapeOk.f aG aH aI).bind fun bK => (if bK = true then ((impl_isPlace.f aJ aK).bind fun bL => (if bL = true then ((impl_isDrive.f aC aD).bind fun bM => (if bM = true then ((impl_in.f aM 0 1000).bind fun bN => (impl_BodyOk.j0 k (!bN) aF aG aH aI aJ aK aC aD aM aL aE aB)) else (impl_BodyOk.j0 k true aF aG aH aI aJ aK aC aD aM aL aE aB))) else (impl_BodyOk.j0 k true aF aG aH aI aJ aK aC aD aM aL aE aB))) else (impl_BodyOk.j0 k true aF aG aH aI aJ aK aC aD aM aL aE aB))) else (impl_BodyOk.j0 k true aF aG aH aI aJ aK aC aD aM aL aE aB))) = some r := h; clear h; have c3 := az H; clear H; go_enter Try.func58, Try.ntmps58
  go_upto_region 1 with (first | ((with_reducible refine gate_dst (N := 1) rfl ?_); refine bx (N := 1) (cs := #[.int .i64 aF, .int .i64 aG, .int .i64 aH, .int .i64 aI, .int .i64 aJ, .int .i64 aK, .int .i64 aC, .int .i64 aD, .int .i64 aM, .int .i64 aL, .int .i64 aE, .int .i64 aB]) (t := 41) ?_; intro bH hg w3 hbox hb; have aA := az hbox; have c5 := az ((gE hg (qL HB) : w.heap.size ≤ bH)); have mW := c5; replace HB := bS HB hb; clear hb hbox hg))
  (try simp only [Act.put, List.setIfInBounds_toArray, List.set_cons_zero, List.set_cons_succ])
  go_cut [31] (fun mT wc => ∃ (kq : Nat) (b8 : Bool), mT = .bool b8 ∧ Aside0 (impl_BodyOk.j0 kq b8 aF aG aH aI aJ aK aC aD aM aL aE aB = some r) ∧ Aside0 (kq ≤ k) ∧ Aside0 (wc.heap[bH]? = some (.cells #[.int .i64 aF, .int .i64 aG, .int .i64 aH, .int .i64 aI, .int .i64 aJ, .int .i64 aK, .int .i64 aC, .int .i64 aD, .int .i64 aM, .int .i64 aL, .int .i64 aE, .int .i64 aB] 41 (0, 0))) ∧ Aside0 (Below w.heap.size w wc))
  case first =>
    have H := c3.out; clear c3; replace H := qH H; obtain ⟨c6, bP, H⟩ := H
    try dsimp only at H
    by_cases b9 : c6 = true; subst b9; replace H := qT H; replace H := qH H; obtain ⟨c7, bQ, H⟩ := H
    try dsimp only at H
    by_cases bA : c7 = true; subst bA; replace H := qT H; replace H := qH H; obtain ⟨c8, bR, H⟩ := H
    try dsimp only at H
    by_cases bB : c8 = true; subst bB; replace H := qT H; replace H := qH H; obtain ⟨c9, bT, H⟩ := H
    try dsimp only at H
    by_cases bC : c9 = true; subst bC; replace H := qT H; replace H := qH H; obtain ⟨bU, cA, H⟩ := H
    try dsimp only at H
    have H' := az H; clear H; refine ?L1; rotate_left; replace bC := Bool.eq_false_iff.mpr bC; subst bC; replace H := qU H; have H' := az H; clear H; refine ?L2
    rotate_right
    rotate_left 2
    replace bB := Bool.eq_false_iff.mpr bB; subst bB; replace H := qU H; have H' := az H; clear H; refine ?L3
    rotate_right 2
    rotate_left 3
    replace bA := Bool.eq_false_iff.mpr bA; subst bA; replace H := qU H; have H' := az H; clear H; refine ?L4
    rotate_right 3
    rotate_left 4
    replace b9 := Bool.eq_false_iff.mpr b9; subst b9; replace H := qU H; have H' := az H; clear H; refine ?L5
    rotate_right 4
    case' L1 | L2 | L3 | L4 | L5 =>
      obtain ⟨dW, dX, dY, dZ, e0, e1, e2, e3, e4, e5, cI, cJ⟩ := cz12 aA.out; obtain ⟨e6, e7, e8, e9, eA, eB, eC, eD, eE, eF, cK, cL⟩ := fz12 aA.out
    case' L1 | L2 | L3 | L4 =>
      go_wp2_with (first | ((with_reducible refine gate_callee (f := 82) rfl ?_); refine gl (some 6) Try.func82 #[.int .i64 aF, .int .i64 0, .int .i64 999999999] ?_; (with_reducible refine (impl_in.calls aF 0 999999999 true _ bP.out).mono ?_); rintro e w' ⟨rfl, ⟨nd, rfl⟩⟩; refine ⟨_, rfl, ?_⟩) | (go_at_call 65; (with_reducible refine (impl_ShapeOk.calls aG aH aI true _ bQ.out).mono ?_); rintro e mZ ⟨rfl, hb⟩; replace aA := kBB aA hb; replace HB := bS HB hb; clear hb; obtain ⟨eG, eH, eI, eJ, eK, eL, eM, eN, eO, eP, cM, cN⟩ := cz12 aA.out; obtain ⟨eQ, eR, eS, eT, eU, eV, eW, eX, eY, eZ, cO, cP⟩ := fz12 aA.out) | (go_at_call 66; (with_reducible refine (impl_isPlace.calls aJ aK true _ bR.out).mono ?_); rintro e nA ⟨rfl, hb⟩; replace aA := kBB aA hb; replace HB := bS HB hb; clear hb; obtain ⟨fA, fB, fC, fD, fE, fG, fH, fI, fJ, fK, cQ, cR⟩ := cz12 aA.out; obtain ⟨fL, fM, fN, fO, fP, fQ, fR, fS, fT, fU, cS, cT⟩ := fz12 aA.out) | (go_at_call 83; (with_reducible refine (impl_isDrive.calls aC aD true _ bT.out).mono ?_); rintro e nB ⟨rfl, hb⟩; replace aA := kBB aA hb; replace HB := bS HB hb; clear hb; obtain ⟨fV, fW, fX, fY, fZ, g0, g1, g2, g3, g4, cU, cV⟩ := cz12 aA.out; obtain ⟨g5, g6, g7, g8, g9, gA, gB, gC, gD, gF, cW, cX⟩ := fz12 aA.out) | (go_at_call 82; (with_reducible refine (impl_in.calls aM 0 1000 bU _ cA.out).mono ?_); rintro e w' ⟨rfl, ⟨nd, rfl⟩⟩) | (go_at_call 83; (with_reducible refine (impl_isDrive.calls aC aD false _ bT.out).mono ?_); rintro e nC ⟨rfl, hb⟩; replace aA := kBB aA hb; replace HB := bS HB hb; clear hb) | (go_at_call 66; (with_reducible refine (impl_isPlace.calls aJ aK false _ bR.out).mono ?_); rintro e nD ⟨rfl, hb⟩; replace aA := kBB aA hb; replace HB := bS HB hb; clear hb) | (go_at_call 65; (with_reducible refine (impl_ShapeOk.calls aG aH aI false _ bQ.out).mono ?_); rintro e nE ⟨rfl, hb⟩; replace aA := kBB aA hb; replace HB := bS HB hb; clear hb))
      go_meet
    case L1 =>
      exact ⟨_, (!bU), qG, H', ⟨qO⟩, ⟨qF aA⟩, ⟨qL HB⟩⟩
    case' L2 | L3 | L4 =>
      exact ⟨_, (true), qG, H', ⟨qO⟩, ⟨qF aA⟩, ⟨qL HB⟩⟩
    case L5 =>
      go_wp2_with (first | ((with_reducible refine gate_callee (f := 82) rfl ?_); refine gl (some 6) Try.func82 #[.int .i64 aF, .int .i64 0, .int .i64 999999999] ?_; (with_reducible refine (impl_in.calls aF 0 999999999 false _ bP.out).mono ?_); rintro e w' ⟨rfl, ⟨nd, rfl⟩⟩; refine ⟨_, rfl, ?_⟩))
      go_meet
      exact ⟨_, (true), qG, H', ⟨qO⟩, ⟨qF aA⟩, ⟨qL HB⟩⟩
  case rest =>
    clear c3; obtain ⟨kq, b8, rfl, HA, c4, aA, HB⟩ := hcut
    cases kq with
    | zero => exact absurd HA.out (by simp [impl_BodyOk.j0])
    | succ mU => ?_
    have H := HA.out; clear HA; simp only [impl_BodyOk.j0] at H; by_cases b5 : b8 = true; subst b5; replace H := qT H; obtain rfl := Option.some.inj H; refine ?L6; rotate_left; replace b5 := Bool.eq_false_iff.mpr b5; subst b5; replace H := qU H; refine ?L17
    rotate_right
    case L6 =>
      go_wp2
      go_ret
      exact ⟨qE, qL HB⟩
    case L17 =>
      have bO := az H; clear H
      go_upto_region 3 with (fail)
      go_cut [47] (fun mV wc => ∃ (kq : Nat) (b6 : Bool), mV = .bool b6 ∧ Aside0 (impl_BodyOk.j1 kq b6 aF aG aH aI aJ aK aC aD aM aL aE aB = some r) ∧ Aside0 (kq ≤ mU) ∧ Aside0 (wc.heap[bH]? = some (.cells #[.int .i64 aF, .int .i64 aG, .int .i64 aH, .int .i64 aI, .int .i64 aJ, .int .i64 aK, .int .i64 aC, .int .i64 aD, .int .i64 aM, .int .i64 aL, .int .i64 aE, .int .i64 aB] 41 (0, 0))) ∧ Aside0 (Below w.heap.size w wc))
      case first =>
        have H := bO.out; clear bO; replace H := qH H; obtain ⟨bI, b2, H⟩ := H
        try dsimp only at H
        by_cases b1 : bI = true; subst b1; replace H := qT H; replace H := qH H; obtain ⟨b7, b3, H⟩ := H
        try dsimp only at H
        by_cases aP : b7 = true; subst aP; replace H := qT H; replace H := qH H; obtain ⟨bV, cB, H⟩ := H
        try dsimp only at H
        have H' := az H; clear H; refine ?L7; rotate_left; replace aP := Bool.eq_false_iff.mpr aP; subst aP; replace H := qU H; have H' := az H; clear H; refine ?L8
        rotate_right
        rotate_left 2
        replace b1 := Bool.eq_false_iff.mpr b1; subst b1; replace H := qU H; have H' := az H; clear H; refine ?L9
        rotate_right 2
        case' L7 | L8 | L9 =>
          obtain ⟨gG, gH, gI, gJ, gL, gM, gN, gO, gP, gQ, cY, cZ⟩ := cz12 aA.out; obtain ⟨gR, gS, gT, gU, gV, gW, gX, gY, gZ, hA, dA, dB⟩ := fz12 aA.out
        case' L7 | L8 =>
          go_wp2_with (first | ((with_reducible refine gate_callee (f := 82) rfl ?_); refine gl (some 34) Try.func82 #[.int .i64 aL, .int .i64 0, .int .i64 256] ?_; (with_reducible refine (impl_in.calls aL 0 256 true _ b2.out).mono ?_); rintro e w' ⟨rfl, ⟨nd, rfl⟩⟩; refine ⟨_, rfl, ?_⟩) | (go_at_call 82; (with_reducible refine (impl_in.calls aE 0 256 true _ b3.out).mono ?_); rintro e w' ⟨rfl, ⟨nd, rfl⟩⟩) | (go_at_call 82; (with_reducible refine (impl_in.calls aB 0 8 bV _ cB.out).mono ?_); rintro e w' ⟨rfl, ⟨nd, rfl⟩⟩) | (go_at_call 82; (with_reducible refine (impl_in.calls aE 0 256 false _ b3.out).mono ?_); rintro e w' ⟨rfl, ⟨nd, rfl⟩⟩))
          go_meet
        case L7 =>
          exact ⟨_, (!bV), qG, H', ⟨by have := c4.out; first | omega | exact Nat.le_refl _⟩, ⟨qF aA⟩, ⟨qL HB⟩⟩
        case L8 =>
          exact ⟨_, (true), qG, H', ⟨by have := c4.out; first | omega | exact Nat.le_refl _⟩, ⟨qF aA⟩, ⟨qL HB⟩⟩
        case L9 =>
          go_wp2_with (first | ((with_reducible refine gate_callee (f := 82) rfl ?_); refine gl (some 34) Try.func82 #[.int .i64 aL, .int .i64 0, .int .i64 256] ?_; (with_reducible refine (impl_in.calls aL 0 256 false _ b2.out).mono ?_); rintro e w' ⟨rfl, ⟨nd, rfl⟩⟩; refine ⟨_, rfl, ?_⟩))
          go_meet
          exact ⟨_, (true), qG, H', ⟨by have := c4.out; first | omega | exact Nat.le_refl _⟩, ⟨qF aA⟩, ⟨qL HB⟩⟩
      case rest =>
        clear bO; (try clear b5); obtain ⟨kq, b6, rfl, HA, mX, aA, HB⟩ := hcut
        cases kq with
        | zero => exact absurd HA.out (by simp [impl_BodyOk.j1])
        | succ mY => ?_
        have H := HA.out; clear HA; simp only [impl_BodyOk.j1] at H; by_cases bD : b6 = true; subst bD; replace H := qT H; obtain rfl := Option.some.inj H; refine ?L10; rotate_left; replace bD := Bool.eq_false_iff.mpr bD; subst bD; replace H := qU H; replace H := qH H; obtain ⟨bI, b2, H⟩ := H
        try dsimp only at H
        by_cases b1 : bI = true; subst b1; replace H := qT H; by_cases aT : (aC == 0 && (aD == 0)) = true; rw [if_pos aT] at H; have bW : (aC == 0 && (aD == 0)) = true := aT; (try (have bX : decide (aC = 0 && (aD == 0)) = true := by simpa using aT)); (try (have bY : (aC == 0 && (aD == 0)) = true := by simpa using aT)); clear aT; by_cases b4 : aB = 0; rw [if_pos b4] at H; have bZ : (aB == 0) = true := beq_iff_eq.mpr b4; have c0 : (aB != 0) = false := bne_eq_false_iff_eq.mpr b4; clear b4; replace H := qH H; obtain ⟨b7, b3, H⟩ := H
        try dsimp only at H
        by_cases aP : b7 = true; subst aP; replace H := qT H; obtain rfl := Option.some.inj H; refine ?L11; rotate_left; replace aP := Bool.eq_false_iff.mpr aP; subst aP; replace H := qU H; obtain rfl := Option.some.inj H; refine ?L12
        rotate_right
        rotate_left 2
        rw [if_neg b4] at H; have bZ : (aB == 0) = false := beq_eq_false_iff_ne.mpr b4; have c0 : (aB != 0) = true := bne_iff_ne.mpr b4; obtain rfl := Option.some.inj H; refine ?L13
        rotate_right 2
        rotate_left 3
        rw [if_neg aT] at H
        have bW : (aC == 0 && (aD == 0)) = false := by simpa using aT
        refine ?L14
        rotate_right 3
        rotate_left 4
        replace b1 := Bool.eq_false_iff.mpr b1; subst b1; replace H := qU H; replace H := qH H; obtain ⟨b7, b3, H⟩ := H
        try dsimp only at H
        by_cases aP : b7 = true; subst aP; replace H := qT H; obtain rfl := Option.some.inj H; refine ?L15; rotate_left; replace aP := Bool.eq_false_iff.mpr aP; subst aP; replace H := qU H; obtain rfl := Option.some.inj H; refine ?L16
        rotate_right
        rotate_right 4
        rotate_right
        case L10 =>
          go_wp2
          go_ret
          exact ⟨qE, qL HB⟩
        case' L11 | L12 | L13 | L15 | L16 =>
          obtain ⟨hD, hE, hF, hG, hH, hI, hJ, hK, hL, hM, dC, dD⟩ := cz12 aA.out; obtain ⟨hO, hP, hQ, hR, hS, hU, hV, hW, hX, hY, dE, dF⟩ := fz12 aA.out
        case' L11 | L12 | L13 | L15 =>
          go_wp2_with (first | ((with_reducible refine gate_callee (f := 51) rfl ?_); refine gl (some 53) Try.func51 #[.agg #[.int .i64 aF, .int .i64 aG, .int .i64 aH, .int .i64 aI, .int .i64 aJ, .int .i64 aK, .int .i64 aC, .int .i64 aD, .int .i64 aM, .int .i64 aL, .int .i64 aE, .int .i64 aB]] ?_; (with_reducible refine (impl_Body_fixed.calls aF aG aH aI aJ aK aC aD aM aL aE aB true _ b2.out).mono ?_); rintro e nF ⟨rfl, hb⟩; refine ⟨_, rfl, ?_⟩; replace aA := kBB aA hb; replace HB := bS HB hb; clear hb; obtain ⟨hZ, jA, jB, jC, jD, jE, jF, jG, jH, jI, dG, dH⟩ := cz12 aA.out; obtain ⟨jJ, jK, jL, jM, jN, jO, jP, jQ, jR, jS, dI, dJ⟩ := fz12 aA.out) | (go_at_call 56; (with_reducible refine (impl_Body_sleeps.calls aF aG aH aI aJ aK aC aD aM aL aE aB true _ b3.out).mono ?_); rintro e nG ⟨rfl, hb⟩; replace aA := kBB aA hb; replace HB := bS HB hb; clear hb) | (go_at_call 56; (with_reducible refine (impl_Body_sleeps.calls aF aG aH aI aJ aK aC aD aM aL aE aB false _ b3.out).mono ?_); rintro e nH ⟨rfl, hb⟩; replace aA := kBB aA hb; replace HB := bS HB hb; clear hb) | ((with_reducible refine gate_callee (f := 51) rfl ?_); refine gl (some 53) Try.func51 #[.agg #[.int .i64 aF, .int .i64 aG, .int .i64 aH, .int .i64 aI, .int .i64 aJ, .int .i64 aK, .int .i64 aC, .int .i64 aD, .int .i64 aM, .int .i64 aL, .int .i64 aE, .int .i64 aB]] ?_; (with_reducible refine (impl_Body_fixed.calls aF aG aH aI aJ aK aC aD aM aL aE aB false _ b2.out).mono ?_); rintro e nI ⟨rfl, hb⟩; refine ⟨_, rfl, ?_⟩; replace aA := kBB aA hb; replace HB := bS HB hb; clear hb; obtain ⟨jT, jU, jV, jW, jX, jY, jZ, l9, lA, lB, dK, dL⟩ := cz12 aA.out; obtain ⟨lC, lD, lE, lF, lG, lH, lI, lJ, lK, lL, dM, dN⟩ := fz12 aA.out))
          go_ret
          exact ⟨qE, qL HB⟩
        case L16 =>
          go_wp2_with (first | ((with_reducible refine gate_callee (f := 51) rfl ?_); refine gl (some 53) Try.func51 #[.agg #[.int .i64 aF, .int .i64 aG, .int .i64 aH, .int .i64 aI, .int .i64 aJ, .int .i64 aK, .int .i64 aC, .int .i64 aD, .int .i64 aM, .int .i64 aL, .int .i64 aE, .int .i64 aB]] ?_; (with_reducible refine (impl_Body_fixed.calls aF aG aH aI aJ aK aC aD aM aL aE aB false _ b2.out).mono ?_); rintro e nJ ⟨rfl, hb⟩; refine ⟨_, rfl, ?_⟩; replace aA := kBB aA hb; replace HB := bS HB hb; clear hb; obtain ⟨lM, lN, lO, lP, lQ, lR, lS, lT, lU, lV, dO, dP⟩ := cz12 aA.out; obtain ⟨lW, lX, lY, lZ, m0, m1, m2, m3, m4, m5, dQ, dR⟩ := fz12 aA.out) | (go_at_call 56; (with_reducible refine (impl_Body_sleeps.calls aF aG aH aI aJ aK aC aD aM aL aE aB false _ b3.out).mono ?_); rintro e nK ⟨rfl, hb⟩; replace aA := kBB aA hb; replace HB := bS HB hb; clear hb))
          go_ret
          exact ⟨qE, qL HB⟩
          
        case L14 =>
          (try (have bX : decide (aC = 0 && (aD == 0)) = false := by simpa using aT)); (try (have bY : (aC == 0 && (aD == 0)) = false := by simpa using aT)); (try (have m6 : ¬ (aC = 0 && (aD == 0)) := by simpa using aT)); clear aT; obtain rfl := Option.some.inj H; obtain ⟨m7, m8, m9, mA, mB, mC, mD, mE, mF, mG, dS, dT⟩ := cz12 aA.out; obtain ⟨mH, mI, mJ, mK, mL, mM, mN, mO, mP, mQ, dU, dV⟩ := fz12 aA.out; go_wp2_with (first | ((with_reducible refine gate_callee (f := 51) rfl ?_); refine gl (some 53) Try.func51 #[.agg #[.int .i64 aF, .int .i64 aG, .int .i64 aH, .int .i64 aI, .int .i64 aJ, .int .i64 aK, .int .i64 aC, .int .i64 aD, .int .i64 aM, .int .i64 aL, .int .i64 aE, .int .i64 aB]] ?_; (with_reducible refine (impl_Body_fixed.calls aF aG aH aI aJ aK aC aD aM aL aE aB true _ b2.out).mono ?_); rintro e nL ⟨rfl, hb⟩; refine ⟨_, rfl, ?_⟩; replace aA := kBB aA hb; replace HB := bS HB hb; clear hb))
          go_ret
          exact ⟨qE, qL HB⟩
end Go.Proofs.Ytdngjedhbnoaoaa.PBig
