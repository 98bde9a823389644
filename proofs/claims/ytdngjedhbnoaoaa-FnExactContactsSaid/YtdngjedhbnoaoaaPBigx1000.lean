/- What these functions compute, each walked once: impl_Body_fixed, impl_Body_sleeps, impl_in, impl_ShapeOk, impl_isPlace, impl_within, impl_Vec_clamped, impl_isDrive, impl_BodyOk; for all arguments and worlds, under the conditions that each theorem names. -/
import Derived.Test.YtdngjedhbnoaoaaSq
import Derived.Test.YtdngjedhbnoaoaaPBigx1001
namespace Go.Proofs.Ytdngjedhbnoaoaa.PBig
open Go.RowKit Go.Proofs.YtdngjedhbnoaoaaW.PrintWords Go.Proofs.YtdngjedhbnoaoaaW.PrintLast Go.Proofs.YtdngjedhbnoaoaaW.PrintMore
attribute [local go_sem] max2_int min2_int max_two min_two max_three min_three max_four min_four   -- for this text's walks alone
set_option linter.unusedVariables false
set_option linter.unusedSimpArgs false

/-! ### impl_Body_fixed: function 51 -/
def impl_Body_fixed.f (a3 : Int) (a4 : Int) (a5 : Int) (a6 : Int) (a7 : Int) (a8 : Int) (a9 : Int) (aA : Int) (a0 : Int) (aB : Int) (a1 : Int) (a2 : Int) : Option (Bool) := some (a0 == 0)
set_option maxHeartbeats 8000000 in
set_option maxRecDepth 100000 in
theorem impl_Body_fixed.calls (a3 : Int) (a4 : Int) (a5 : Int) (a6 : Int) (a7 : Int) (a8 : Int) (a9 : Int) (aA : Int) (a0 : Int) (aB : Int) (a1 : Int) (a2 : Int) (r : Bool) (w : World) (h : impl_Body_fixed.f a3 a4 a5 a6 a7 a8 a9 aA a0 aB a1 a2 = some r) :
    Calls Try.prog 51 #[.agg #[.int .i64 a3, .int .i64 a4, .int .i64 a5, .int .i64 a6, .int .i64 a7, .int .i64 a8, .int .i64 a9, .int .i64 aA, .int .i64 a0, .int .i64 aB, .int .i64 a1, .int .i64 a2]] w fun e w' => e = .returned (.bool r) ∧ Below w.heap.size w w' := by
  have hu41 := Try.underlying41; have HB := az (Below.refl w.heap.size w); have H : (some (a0 == 0)) = some r := h; clear h; obtain rfl := Option.some.inj H; go_enter Try.func51, Try.ntmps51; go_wp2_with (first | ((with_reducible refine gate_dst (N := 1) rfl ?_); refine bx (N := 1) (cs := #[.int .i64 a3, .int .i64 a4, .int .i64 a5, .int .i64 a6, .int .i64 a7, .int .i64 a8, .int .i64 a9, .int .i64 aA, .int .i64 a0, .int .i64 aB, .int .i64 a1, .int .i64 a2]) (t := 41) ?_; intro aD hg w2 hbox hb; have aC := az hbox; have aE := az ((gE hg (qL HB) : w.heap.size ≤ aD)); have b3 := aE; replace HB := bS HB hb; clear hb hbox hg; obtain ⟨aJ, aK, aL, aM, aN, aO, aP, aQ, aR, aS, aF, aG⟩ := cz12 aC.out; obtain ⟨aT, aU, aV, aW, aX, aY, aZ, b0, b1, b2, aH, aI⟩ := fz12 aC.out))
  go_ret
  exact ⟨qE, qL HB⟩

/-! ### impl_Body_sleeps: function 56 -/
def impl_Body_sleeps.f (a2 : Int) (a3 : Int) (a4 : Int) (a5 : Int) (a6 : Int) (a7 : Int) (a8 : Int) (a9 : Int) (aA : Int) (aB : Int) (a1 : Int) (a0 : Int) : Option (Bool) := some (a0 == 8)
set_option maxHeartbeats 8000000 in
set_option maxRecDepth 100000 in
theorem impl_Body_sleeps.calls (a2 : Int) (a3 : Int) (a4 : Int) (a5 : Int) (a6 : Int) (a7 : Int) (a8 : Int) (a9 : Int) (aA : Int) (aB : Int) (a1 : Int) (a0 : Int) (r : Bool) (w : World) (h : impl_Body_sleeps.f a2 a3 a4 a5 a6 a7 a8 a9 aA aB a1 a0 = some r) :
    Calls Try.prog 56 #[.agg #[.int .i64 a2, .int .i64 a3, .int .i64 a4, .int .i64 a5, .int .i64 a6, .int .i64 a7, .int .i64 a8, .int .i64 a9, .int .i64 aA, .int .i64 aB, .int .i64 a1, .int .i64 a0]] w fun e w' => e = .returned (.bool r) ∧ Below w.heap.size w w' := by
  have hu41 := Try.underlying41; have HB := az (Below.refl w.heap.size w); have H : (some (a0 == 8)) = some r := h; clear h; obtain rfl := Option.some.inj H; go_enter Try.func56, Try.ntmps56; go_wp2_with (first | ((with_reducible refine gate_dst (N := 1) rfl ?_); refine bx (N := 1) (cs := #[.int .i64 a2, .int .i64 a3, .int .i64 a4, .int .i64 a5, .int .i64 a6, .int .i64 a7, .int .i64 a8, .int .i64 a9, .int .i64 aA, .int .i64 aB, .int .i64 a1, .int .i64 a0]) (t := 41) ?_; intro aD hg w2 hbox hb; have aC := az hbox; have aE := az ((gE hg (qL HB) : w.heap.size ≤ aD)); have b3 := aE; replace HB := bS HB hb; clear hb hbox hg; obtain ⟨aJ, aK, aL, aM, aN, aO, aP, aQ, aR, aS, aF, aG⟩ := cz12 aC.out; obtain ⟨aT, aU, aV, aW, aX, aY, aZ, b0, b1, b2, aH, aI⟩ := fz12 aC.out))
  go_ret
  exact ⟨qE, qL HB⟩

/-! ### impl_in: function 82 -/
def impl_in.f (a0 : Int) (a1 : Int) (a2 : Int) : Option (Bool) := if a0 ≥ a1 then (some (decide (a0 ≤ a2))) else (some false)
set_option maxHeartbeats 8000000 in
set_option maxRecDepth 100000 in
theorem impl_in.calls (a0 : Int) (a1 : Int) (a2 : Int) (r : Bool) (w : World) (h : impl_in.f a0 a1 a2 = some r) :
    Calls Try.prog 82 #[.int .i64 a0, .int .i64 a1, .int .i64 a2] w fun e w' => e = .returned (.bool r) ∧ Drawn0 w w' := by
  have H : (if a0 ≥ a1 then (some (decide (a0 ≤ a2))) else (some false)) = some r := h; clear h; by_cases c4 : a0 ≥ a1
  · rw [if_pos c4] at H; have a3 : decide (a1 ≤ a0) = true := decide_eq_true c4; clear c4; obtain rfl := Option.some.inj H; go_enter Try.func82, Try.ntmps82; go_wp2
    go_ret
    exact ⟨by first | rfl | (simp; done) | (simp [*]; done), by repeat (first | exact Drawn0.refl _ | apply Drawn0.step)⟩
  rw [if_neg c4] at H; have a3 : decide (a1 ≤ a0) = false := decide_eq_false c4; clear c4; obtain rfl := Option.some.inj H; go_enter Try.func82, Try.ntmps82; go_wp2
  go_ret
  exact ⟨by first | rfl | (simp; done) | (simp [*]; done), by repeat (first | exact Drawn0.refl _ | apply Drawn0.step)⟩

/-! ### impl_ShapeOk: function 65 -/
def impl_ShapeOk.f (a0 : Int) (a1 : Int) (a3 : Int) : Option (Bool) := if a0 = 1 then ((impl_in.f a1 1 25600).bind fun a7 => (if a7 = true then (some (a3 == 0)) else (some false))) else (if a0 = 2 then ((impl_in.f a1 1 25600).bind fun a8 => (if a8 = true then ((impl_in.f a3 1 25600).bind fun a9 => (some a9)) else (some false))) else (some false))
set_option maxHeartbeats 8000000 in
set_option maxRecDepth 100000 in
theorem impl_ShapeOk.calls (a0 : Int) (a1 : Int) (a3 : Int) (r : Bool) (w : World) (h : impl_ShapeOk.f a0 a1 a3 = some r) :
    Calls Try.prog 65 #[.agg #[.int .i64 a0, .int .i64 a1, .int .i64 a3]] w fun e w' => e = .returned (.bool r) ∧ Below w.heap.size w w' := by
  have hu39 := Try.underlying39; have HB := az (Below.refl w.heap.size w); have H : (if a0 = 1 then ((impl_in.f a1 1 25600).bind fun a7 => (if a7 = true then (some (a3 == 0)) else (some false))) else (if a0 = 2 then ((impl_in.f a1 1 25600).bind fun a8 => (if a8 = true then ((impl_in.f a3 1 25600).bind fun a9 => (some a9)) else (some false))) else (some false))) = some r := h; clear h; by_cases c2 : a0 = 1
  · rw [if_pos c2] at H; have aC : (a0 == 1) = true := beq_iff_eq.mpr c2; have aD : (a0 != 1) = false := bne_eq_false_iff_eq.mpr c2; clear c2; replace H := qH H; obtain ⟨a7, A3, H⟩ := H
    try dsimp only at H
    by_cases c4 : a7 = true
    · subst c4; replace H := qT H; obtain rfl := Option.some.inj H; go_enter Try.func65, Try.ntmps65; go_wp2_with (first | ((with_reducible refine gate_dst (N := 1) rfl ?_); refine bx (N := 1) (cs := #[.int .i64 a0, .int .i64 a1, .int .i64 a3]) (t := 39) ?_; intro a4 hg w5 hbox hb; have a2 := az hbox; have a5 := az ((gE hg (qL HB) : w.heap.size ≤ a4)); have a6 := a5; replace HB := bS HB hb; clear hb hbox hg; obtain ⟨aY, aZ, b0⟩ := cz3 a2.out; obtain ⟨b1, b2, b3⟩ := fz3 a2.out) | ((with_reducible refine gate_callee (f := 82) rfl ?_); refine gl (some 9) Try.func82 #[.int .i64 a1, .int .i64 1, .int .i64 25600] ?_; (with_reducible refine (impl_in.calls a1 1 25600 true _ A3.out).mono ?_); rintro e w' ⟨rfl, ⟨nd, rfl⟩⟩; refine ⟨_, rfl, ?_⟩))
      go_ret
      exact ⟨qE, qL HB⟩
    replace c4 := Bool.eq_false_iff.mpr c4; subst c4; replace H := qU H; obtain rfl := Option.some.inj H; go_enter Try.func65, Try.ntmps65; go_wp2_with (first | ((with_reducible refine gate_dst (N := 1) rfl ?_); refine bx (N := 1) (cs := #[.int .i64 a0, .int .i64 a1, .int .i64 a3]) (t := 39) ?_; intro a4 hg w7 hbox hb; have a2 := az hbox; have a5 := az ((gE hg (qL HB) : w.heap.size ≤ a4)); have a6 := a5; replace HB := bS HB hb; clear hb hbox hg; obtain ⟨b4, b5, b6⟩ := cz3 a2.out; obtain ⟨b7, b8, b9⟩ := fz3 a2.out) | ((with_reducible refine gate_callee (f := 82) rfl ?_); refine gl (some 9) Try.func82 #[.int .i64 a1, .int .i64 1, .int .i64 25600] ?_; (with_reducible refine (impl_in.calls a1 1 25600 false _ A3.out).mono ?_); rintro e w' ⟨rfl, ⟨nd, rfl⟩⟩; refine ⟨_, rfl, ?_⟩))
    go_ret
    exact ⟨qE, qL HB⟩
  rw [if_neg c2] at H; have aC : (a0 == 1) = false := beq_eq_false_iff_ne.mpr c2; have aD : (a0 != 1) = true := bne_iff_ne.mpr c2; by_cases c9 : a0 = 2
  · rw [if_pos c9] at H; have aE : (a0 == 2) = true := beq_iff_eq.mpr c9; have aF : (a0 != 2) = false := bne_eq_false_iff_eq.mpr c9; clear c9; replace H := qH H; obtain ⟨a8, aB, H⟩ := H
    try dsimp only at H
    by_cases aA : a8 = true
    · subst aA; replace H := qT H; replace H := qH H; obtain ⟨a9, bA, H⟩ := H
      try dsimp only at H
      obtain rfl := Option.some.inj H; go_enter Try.func65, Try.ntmps65; go_wp2_with (first | ((with_reducible refine gate_dst (N := 1) rfl ?_); refine bx (N := 1) (cs := #[.int .i64 a0, .int .i64 a1, .int .i64 a3]) (t := 39) ?_; intro a4 hg bB hbox hb; have a2 := az hbox; have a5 := az ((gE hg (qL HB) : w.heap.size ≤ a4)); have a6 := a5; replace HB := bS HB hb; clear hb hbox hg; obtain ⟨aG, aH, aI⟩ := cz3 a2.out; obtain ⟨aJ, aK, aL⟩ := fz3 a2.out) | ((with_reducible refine gate_callee (f := 82) rfl ?_); refine gl (some 19) Try.func82 #[.int .i64 a1, .int .i64 1, .int .i64 25600] ?_; (with_reducible refine (impl_in.calls a1 1 25600 true _ aB.out).mono ?_); rintro e w' ⟨rfl, ⟨nd, rfl⟩⟩; refine ⟨_, rfl, ?_⟩) | (go_at_call 82; (with_reducible refine (impl_in.calls a3 1 25600 a9 _ bA.out).mono ?_); rintro e w' ⟨rfl, ⟨nd, rfl⟩⟩))
      go_ret
      exact ⟨qE, qL HB⟩
    replace aA := Bool.eq_false_iff.mpr aA; subst aA; replace H := qU H; obtain rfl := Option.some.inj H; go_enter Try.func65, Try.ntmps65; go_wp2_with (first | ((with_reducible refine gate_dst (N := 1) rfl ?_); refine bx (N := 1) (cs := #[.int .i64 a0, .int .i64 a1, .int .i64 a3]) (t := 39) ?_; intro a4 hg bC hbox hb; have a2 := az hbox; have a5 := az ((gE hg (qL HB) : w.heap.size ≤ a4)); have a6 := a5; replace HB := bS HB hb; clear hb hbox hg; obtain ⟨aM, aN, aO⟩ := cz3 a2.out; obtain ⟨aP, aQ, aR⟩ := fz3 a2.out) | ((with_reducible refine gate_callee (f := 82) rfl ?_); refine gl (some 19) Try.func82 #[.int .i64 a1, .int .i64 1, .int .i64 25600] ?_; (with_reducible refine (impl_in.calls a1 1 25600 false _ aB.out).mono ?_); rintro e w' ⟨rfl, ⟨nd, rfl⟩⟩; refine ⟨_, rfl, ?_⟩))
    go_ret
    exact ⟨qE, qL HB⟩
  rw [if_neg c9] at H; have aE : (a0 == 2) = false := beq_eq_false_iff_ne.mpr c9; have aF : (a0 != 2) = true := bne_iff_ne.mpr c9; obtain rfl := Option.some.inj H; go_enter Try.func65, Try.ntmps65; go_wp2_with (first | ((with_reducible refine gate_dst (N := 1) rfl ?_); refine bx (N := 1) (cs := #[.int .i64 a0, .int .i64 a1, .int .i64 a3]) (t := 39) ?_; intro a4 hg bD hbox hb; have a2 := az hbox; have a5 := az ((gE hg (qL HB) : w.heap.size ≤ a4)); have a6 := a5; replace HB := bS HB hb; clear hb hbox hg; obtain ⟨aS, aT, aU⟩ := cz3 a2.out; obtain ⟨aV, aW, aX⟩ := fz3 a2.out))
  go_ret
  exact ⟨qE, qL HB⟩

/-! ### impl_isPlace: function 66 -/
def impl_isPlace.f (a0 : Int) (a2 : Int) : Option (Bool) := (impl_in.f a0 (-2560000) 2560000).bind fun a3 => (if a3 = true then ((impl_in.f a2 (-2560000) 2560000).bind fun a4 => (some a4)) else (some false))
set_option maxHeartbeats 8000000 in
set_option maxRecDepth 100000 in
theorem impl_isPlace.calls (a0 : Int) (a2 : Int) (r : Bool) (w : World) (h : impl_isPlace.f a0 a2 = some r) :
    Calls Try.prog 66 #[.agg #[.int .i64 a0, .int .i64 a2]] w fun e w' => e = .returned (.bool r) ∧ Below w.heap.size w w' := by
  have hu33 := Try.underlying33; have HB := az (Below.refl w.heap.size w); have H : ((impl_in.f a0 (-2560000) 2560000).bind fun a3 => (if a3 = true then ((impl_in.f a2 (-2560000) 2560000).bind fun a4 => (some a4)) else (some false))) = some r := h; clear h; replace H := qH H; obtain ⟨a3, A2, H⟩ := H
  try dsimp only at H
  by_cases c3 : a3 = true
  · subst c3; replace H := qT H; replace H := qH H; obtain ⟨a4, A4, H⟩ := H
    try dsimp only at H
    obtain rfl := Option.some.inj H; go_enter Try.func66, Try.ntmps66; go_wp2_with (first | ((with_reducible refine gate_dst (N := 1) rfl ?_); refine bx (N := 1) (cs := #[.int .i64 a0, .int .i64 a2]) (t := 33) ?_; intro a5 hg w5 hbox hb; have a1 := az hbox; have a6 := az ((gE hg (qL HB) : w.heap.size ≤ a5)); have a7 := a6; replace HB := bS HB hb; clear hb hbox hg; obtain ⟨a8, a9⟩ := cz2 a1.out; have aA := blk_frozen a1.out 0; have aB := blk_frozen a1.out 1) | ((with_reducible refine gate_callee (f := 82) rfl ?_); refine gl (some 5) Try.func82 #[.int .i64 a0, .int .i64 (-2560000), .int .i64 2560000] ?_; (with_reducible refine (impl_in.calls a0 (-2560000) 2560000 true _ A2.out).mono ?_); rintro e w' ⟨rfl, ⟨nd, rfl⟩⟩; refine ⟨_, rfl, ?_⟩) | (go_at_call 82; (with_reducible refine (impl_in.calls a2 (-2560000) 2560000 a4 _ A4.out).mono ?_); rintro e w' ⟨rfl, ⟨nd, rfl⟩⟩))
    go_ret
    exact ⟨qE, qL HB⟩
  replace c3 := Bool.eq_false_iff.mpr c3; subst c3; replace H := qU H; obtain rfl := Option.some.inj H; go_enter Try.func66, Try.ntmps66; go_wp2_with (first | ((with_reducible refine gate_dst (N := 1) rfl ?_); refine bx (N := 1) (cs := #[.int .i64 a0, .int .i64 a2]) (t := 33) ?_; intro a5 hg w7 hbox hb; have a1 := az hbox; have a6 := az ((gE hg (qL HB) : w.heap.size ≤ a5)); have a7 := a6; replace HB := bS HB hb; clear hb hbox hg; obtain ⟨aC, aD⟩ := cz2 a1.out; have aE := blk_frozen a1.out 0; have aF := blk_frozen a1.out 1) | ((with_reducible refine gate_callee (f := 82) rfl ?_); refine gl (some 5) Try.func82 #[.int .i64 a0, .int .i64 (-2560000), .int .i64 2560000] ?_; (with_reducible refine (impl_in.calls a0 (-2560000) 2560000 false _ A2.out).mono ?_); rintro e w' ⟨rfl, ⟨nd, rfl⟩⟩; refine ⟨_, rfl, ?_⟩))
  go_ret
  exact ⟨qE, qL HB⟩

/-! ### impl_within: function 128 -/
def impl_within.f (a0 : Int) (a1 : Int) : Option (Int) := some (mx (wrap64 (-a1)) (mn a0 a1))
set_option maxHeartbeats 8000000 in
set_option maxRecDepth 100000 in
theorem impl_within.calls (a0 : Int) (a1 : Int) (r : Int) (w : World) (h : impl_within.f a0 a1 = some r) :
    Calls Try.prog 128 #[.int .i64 a0, .int .i64 a1] w fun e w' => e = .returned (.int .i64 r) ∧ Below w.heap.size w w' := by
  have HB := az (Below.refl w.heap.size w); have H : (some (mx (wrap64 (-a1)) (mn a0 a1))) = some r := h; clear h; obtain ⟨ji3, hji3⟩ : ∃ j_ : Int, (mn a0 a1) = j_ := ⟨_, rfl⟩
  replace H : (some (mx (wrap64 (-a1)) (ji3))) = some r := by first | (rw [hji3] at H; exact H) | (simp only [hji3] at H ⊢; exact H)
  have hji3_ : (if a1 < a0 then a1 else a0) = ji3 := hji3; obtain ⟨ji4, hji4⟩ : ∃ j_ : Int, (mx (wrap64 (-a1)) (ji3)) = j_ := ⟨_, rfl⟩
  replace H : (some ji4) = some r := by first | (rw [hji4] at H; exact H) | (simp only [hji4] at H ⊢; exact H)
  have hji4_ : (if (wrap64 (-a1)) < (ji3) then (ji3) else (wrap64 (-a1))) = ji4 := hji4; obtain rfl := Option.some.inj H; go_enter Try.func128, Try.ntmps128; go_wp2
  go_ret
  exact ⟨by first | rfl | (simp [errW_none, errW_some] <;> rfl) | (simp only [← hji3, ← hji4]; first | rfl | (simp [errW_none, errW_some] <;> rfl)) | (simp [*, errW_none, errW_some] <;> rfl), qL HB⟩

/-! ### impl_Vec_clamped: function 107 -/
def impl_Vec_clamped.f (a4 : Int) (a5 : Int) (a1 : Int) : Option (Int × Int) := (impl_within.f a4 a1).bind fun a6 => ((impl_within.f a5 a1).bind fun a7 => (some (a6, a7)))
def impl_Vec_clamped.T1 : Bool × List (List Nat × List Nat) := (true, [([], []), ([0], [0]), ([], []), ([1, 2], [1, 2]), ([], []), ([4], [4]), ([], []), ([5, 6, 3], [5, 6]), ([3, 7], [3, 7]), ([8, 7, 0, 1, 2, 3, 4, 5, 6, 7, 8], [8])])
def impl_Vec_clamped.B1 : List Nat := [0, 1, 0, 7, 0, 16, 0, 127, 255, 511]
theorem impl_Vec_clamped.tab1 : rtab .any (opsOf Try.f107 1) = impl_Vec_clamped.T1 := by kernel_rfl
theorem impl_Vec_clamped.bits1 : waitsOk impl_Vec_clamped.T1.2 impl_Vec_clamped.B1 = true := by kernel_rfl
set_option maxHeartbeats 8000000 in
set_option maxRecDepth 100000 in
theorem impl_Vec_clamped.calls (a4 : Int) (a5 : Int) (a1 : Int) (r1 : Int) (r2 : Int) (w : World) (h : impl_Vec_clamped.f a4 a5 a1 = some (r1, r2)) :
    Calls Try.prog 107 #[.agg #[.int .i64 a4, .int .i64 a5], .int .i64 a1] w fun e w' => e = .returned (.agg #[.int .i64 r1, .int .i64 r2]) ∧ Below w.heap.size w w' := by
  have hu33 := Try.underlying33; have HB := az (Below.refl w.heap.size w); have H : ((impl_within.f a4 a1).bind fun a6 => ((impl_within.f a5 a1).bind fun a7 => (some (a6, a7)))) = some (r1, r2) := h; clear h; replace H := qH H; obtain ⟨a6, A3, H⟩ := H
  try dsimp only at H
  replace H := qH H; obtain ⟨a7, A4, H⟩ := H
  try dsimp only at H
  simp only [Option.some.injEq, Prod.mk.injEq] at H; obtain ⟨rfl, rfl⟩ := H; go_enter Try.func107, Try.ntmps107
  try go_wp2_with (first | ((with_reducible refine gate_dst (N := 2) rfl ?_); refine bx (N := 2) (cs := #[.int .i64 a4, .int .i64 a5]) (t := 33) ?_; intro aA hg w5 hbox hb; have a0 := az hbox; have aB := az ((gE hg (qL HB) : w.heap.size ≤ aA)); have aH := aB; replace HB := bS HB hb; clear hb hbox hg) | ((with_reducible refine gate_dst (N := 4) rfl ?_); refine bz2 (N := 4) (t := 33) ?_; intro a9 hg w6 hbox hb; have a2 := az hbox; have aC := az ((gE hg (qL HB) : w.heap.size ≤ a9)); have aI := aC; obtain ⟨a3, a8⟩ := nPB a0 hg; replace a0 := kBB a0 hb; replace HB := bS HB hb; clear hb hbox hg))
  replace a0 := az (blk_drew a0.out); replace a2 := az (blk_drew a2.out); replace HB := az (below_drew1 HB.out); refine start_ (n := 10) (S := fun w' => w'.cell? ⟨aA, 0, none⟩ = some (.int .i64 a4) ∧ w'.cell? ⟨aA, 1, none⟩ = some (.int .i64 a5)) (ds := []) #[false, false, false, false, false, false, false, false, false, false] (by kernel_rfl) rfl rfl ⟨bc a0 0, bc a0 1⟩ (fun hHeld => ?_); refine with_tabW impl_Vec_clamped.tab1 impl_Vec_clamped.bits1 (fun HT_ HW_ => ?_); generalize w6.drew = w7 at a0 a2 HB hHeld ⊢; refine pu 0 (some 5) (fl 10 1) HT_ ?_; refine pu 2 (some 7) (fl 10 5) HT_ ?_; refine pu 4 (some 9) (fl 10 21) HT_ ?_; refine pu 6 (some 11) (fl 10 85) HT_ ?_; refine tk2 1 (some 6) (fl 10 87) HT_ HW_ hHeld ?_; refine tk2 5 (some 10) (fl 10 119) HT_ HW_ hHeld ?_; refine on 3 (some 8) (fl 10 127) HT_ (fun K hK => ?_); refine go1 Try.func128 #[.int .i64 a4, .int .i64 a1] ?_
  with_reducible refine (impl_within.calls a4 a1 a6 _ A3.out).mono ?_
  rintro e w8 ⟨rfl, hb⟩; refine ⟨_, rfl, ?_⟩; replace a0 := kBB a0 hb; replace a2 := kBB a2 hb; replace HB := bS HB hb; clear hb; refine hK.out _ _ ⟨bc a0 0, bc a0 1⟩ (fun hHeld => ?_); clear hK K; refine nm (some 8) ?_; refine on 7 (some 12) (fl 10 255) HT_ (fun K hK => ?_); refine go1 Try.func128 #[.int .i64 a5, .int .i64 a1] ?_
  with_reducible refine (impl_within.calls a5 a1 a7 _ A4.out).mono ?_
  rintro e w9 ⟨rfl, hb⟩; refine ⟨_, rfl, ?_⟩; replace a0 := kBB a0 hb; replace a2 := kBB a2 hb; replace HB := bS HB hb; clear hb; refine hK.out _ _ ⟨bc a0 0, bc a0 1⟩ (fun hHeld => ?_); clear hK K; refine nm (some 12) ?_; refine pu 8 (some 13) (fl 10 511) HT_ ?_; refine on 9 (none) (fl 10 1023) HT_ (fun K hK => ?_); have aL : w9.cell? ⟨a9, 0, none⟩ = some (.int .i64 0) := bc a2 0; have aJ := blk_frozen a2.out 0; have aD := a3.out; have aE := a8.out; have aM : w9.cell? ⟨a9, 1, none⟩ = some (.int .i64 0) := bc a2 1; have aK := blk_frozen a2.out 1; have aF := a3.out; have aG := a8.out; refine skip_ (w1 := ?_) ?hw ?hn ?_ ?_; (case hw => unfold Region.wanted; rfl); (case hn => rfl); rotate_left
  · go_simp
    rfl
  refine hK.out _ _ ⟨(cf a3 ((cf a3 (hHeld.1)))), (cf a3 ((cf a3 (hHeld.2))))⟩ (fun hHeld => ?_); clear hK K; refine done_ (done_of HT_.out (by kernel_rfl)) ?_
  try go_wp2
  refine bodyPost_ret (results_cell_row rfl _ _ a9 33 #[.int .i64 a6, .int .i64 a7] (0, 0) _ rfl (qP a2) Try.underlying33 rfl (by kernel_rfl)) rfl ?_; exact ⟨qE, qL HB⟩

attribute [local go_sem high] eqA33
/-! ### impl_isDrive: function 83 -/
def impl_isDrive.f (a1 : Int) (a2 : Int) : Option (Bool) := (impl_Vec_clamped.f a1 a2 20000000).bind fun bt857 => (some (a1 == bt857.1 && (a2 == bt857.2)))
set_option maxHeartbeats 8000000 in
set_option maxRecDepth 100000 in
theorem impl_isDrive.calls (a1 : Int) (a2 : Int) (r : Bool) (w : World) (h : impl_isDrive.f a1 a2 = some r) :
    Calls Try.prog 83 #[.agg #[.int .i64 a1, .int .i64 a2]] w fun e w' => e = .returned (.bool r) ∧ Below w.heap.size w w' := by
  have hu33 := Try.underlying33; have HB := az (Below.refl w.heap.size w); have H : ((impl_Vec_clamped.f a1 a2 20000000).bind fun bt857 => (some (a1 == bt857.1 && (a2 == bt857.2)))) = some r := h; clear h; replace H := qH H; obtain ⟨⟨a5, a6⟩, A2, H⟩ := H
  try dsimp only at H
  obtain rfl := Option.some.inj H; go_enter Try.func83, Try.ntmps83
  try go_wp2_with (first | ((with_reducible refine gate_dst (N := 1) rfl ?_); refine bx (N := 1) (cs := #[.int .i64 a1, .int .i64 a2]) (t := 33) ?_; intro a3 hg w3 hbox hb; have a0 := az hbox; have a4 := az ((gE hg (qL HB) : w.heap.size ≤ a3)); have a7 := a4; replace HB := bS HB hb; clear hb hbox hg))
  replace a0 := az (blk_drew a0.out); replace HB := az (below_drew1 HB.out); refine start_ (n := 5) (S := fun w' => w'.cell? ⟨a3, 0, none⟩ = some (.int .i64 a1) ∧ w'.cell? ⟨a3, 1, none⟩ = some (.int .i64 a2)) (ds := []) #[false, false, false, false, false] (by kernel_rfl) rfl rfl ⟨bc a0 0, bc a0 1⟩ (fun hHeld => ?_); generalize w3.drew = w4 at a0 HB hHeld ⊢; refine take_ (i := 0) (N := some 3) (v := ?_) (a' := ?_) #[true, false, false, false, false] rfl rfl (by kernel_rfl) (fun _ _ _ h => h) (Or.inl ⟨by rfl, ?_⟩) hHeld ?_ ?_; rotate_left
  · rintro w' ⟨s0, s1⟩
    go_simp
    with_reducible rfl
  rotate_left
  · simp only [Act.put, List.setIfInBounds_toArray, List.set_cons_zero, List.set_cons_succ, i64_w, i32_w]
    rfl
  refine take_ (i := 1) (N := some 4) (v := ?_) (a' := ?_) #[true, true, false, false, false] rfl rfl (by kernel_rfl) (fun _ _ _ h => h) (Or.inl ⟨by rfl, ?_⟩) hHeld ?_ ?_; rotate_left
  · rintro w' ⟨s0, s1⟩
    go_simp
    with_reducible rfl
  rotate_left
  · simp only [Act.put, List.setIfInBounds_toArray, List.set_cons_zero, List.set_cons_succ, i64_w, i32_w]
    rfl
  refine one_ (i := 2) (N := some 5) #[true, true, true, false, false] rfl rfl (by kernel_rfl) (by decide) (fun K hK => ?_); refine go1 Try.func107 #[.agg #[.int .i64 a1, .int .i64 a2], .int .i64 20000000] ?_
  with_reducible refine (impl_Vec_clamped.calls a1 a2 20000000 a5 a6 _ A2.out).mono ?_
  rintro e w5 ⟨rfl, hb⟩; refine ⟨_, rfl, ?_⟩; replace a0 := kBB a0 hb; replace HB := bS HB hb; clear hb; refine hK.out _ _ ⟨bc a0 0, bc a0 1⟩ (fun hHeld => ?_); clear hK K; refine nm (some 5) ?_; refine pure_ (i := 3) (N := some 6) (v := ?_) (a' := ?_) #[true, true, true, true, false] rfl rfl (by kernel_rfl) (fun _ _ _ h => h) (Or.inl ⟨by rfl, ?_⟩) ?_ ?_; rotate_left
  · intro w'
    go_simp
    with_reducible rfl
  rotate_left
  · simp only [Act.put, List.setIfInBounds_toArray, List.set_cons_zero, List.set_cons_succ, i64_w, i32_w]
    rfl
  refine pure_ (i := 4) (N := some 2) (v := ?_) (a' := ?_) #[true, true, true, true, true] rfl rfl (by kernel_rfl) (fun _ _ _ h => h) (Or.inl ⟨by rfl, ?_⟩) ?_ ?_; rotate_left
  · intro w'
    go_simp
    with_reducible rfl
  rotate_left
  · simp only [Act.put, List.setIfInBounds_toArray, List.set_cons_zero, List.set_cons_succ, i64_w, i32_w]
    rfl
  refine done_ (by kernel_rfl) ?_
  try go_wp2
  go_ret
  exact ⟨qE, qL HB⟩

attribute [local go_sem high] eqA33
/-! ### impl_BodyOk: function 58 -/
mutual
def impl_BodyOk.j0 : Nat → Bool → Int → Int → Int → Int → Int → Int → Int → Int → Int → Int → Int → Int → Option (Bool)
  | 0, _, _, _, _, _, _, _, _, _, _, _, _, _ => none
  | k + 1, yF, aS, aT, aU, aV, aW, aX, aN, aO, aY, aQ, aR, aP => if yF = true then (some false) else ((impl_in.f aQ 0 256).bind fun bF => (if bF = true then ((impl_in.f aR 0 256).bind fun bG => (if bG = true then ((impl_in.f aP 0 8).bind fun bC => (impl_BodyOk.j1 k (!bC) aS aT aU aV aW aX aN aO aY aQ aR aP)) else (impl_BodyOk.j1 k true aS aT aU aV aW aX aN aO aY aQ aR aP))) else (impl_BodyOk.j1 k true aS aT aU aV aW aX aN aO aY aQ aR aP)))
def impl_BodyOk.j1 : Nat → Bool → Int → Int → Int → Int → Int → Int → Int → Int → Int → Int → Int → Int → Option (Bool)
  | 0, _, _, _, _, _, _, _, _, _, _, _, _, _ => none
  | k + 1, yG, aS, aT, aU, aV, aW, aX, aN, aO, aY, aQ, aR, aP => if yG = true then (some false) else ((impl_Body_fixed.f aS aT aU aV aW aX aN aO aY aQ aR aP).bind fun bH => (if bH = true then (if (aN == 0 && (aO == 0)) = true then (if aP = 0 then ((impl_Body_sleeps.f aS aT aU aV aW aX aN aO aY aQ aR aP).bind fun bI => (if bI = true then (some (aN == 0 && (aO == 0))) else (some true))) else (some false)) else (some false)) else ((impl_Body_sleeps.f aS aT aU aV aW aX aN aO aY aQ aR aP).bind fun bJ => (if bJ = true then (some (aN == 0 && (aO == 0))) else (some true)))))
end
def impl_BodyOk.f (k : Nat) (aC : Int) (aG : Int) (aH : Int) (aI : Int) (aK : Int) (aL : Int) (aD : Int) (aE : Int) (aM : Int) (aJ : Int) (aF : Int) (aB : Int) : Option (Bool) := (impl_in.f aC 0 999999999).bind fun b3 => (if b3 = true then ((impl_ShapeOk.f aG aH aI).bind fun b4 => (if b4 = true then ((impl_isPlace.f aK aL).bind fun b5 => (if b5 = true then ((impl_isDrive.f aD aE).bind fun b6 => (if b6 = true then ((impl_in.f aM 0 1000).bind fun b1 => (impl_BodyOk.j0 k (!b1) aC aG aH aI aK aL aD aE aM aJ aF aB)) else (impl_BodyOk.j0 k true aC aG aH aI aK aL aD aE aM aJ aF aB))) else (impl_BodyOk.j0 k true aC aG aH aI aK aL aD aE aM aJ aF aB))) else (impl_BodyOk.j0 k true aC aG aH aI aK aL aD aE aM aJ aF aB))) else (impl_BodyOk.j0 k true aC aG aH aI aK aL aD aE aM aJ aF aB))
theorem impl_BodyOk.mono_l : ∀ k, (∀ y0 y1 y2 y3 y4 y5 y6 y7 y8 y9 b7 b8 b9, LeO (impl_BodyOk.j0 k y0 y1 y2 y3 y4 y5 y6 y7 y8 y9 b7 b8 b9) (impl_BodyOk.j0 (k + 1) y0 y1 y2 y3 y4 y5 y6 y7 y8 y9 b7 b8 b9)) ∧ (∀ y0 y1 y2 y3 y4 y5 y6 y7 y8 y9 b7 b8 b9, LeO (impl_BodyOk.j1 k y0 y1 y2 y3 y4 y5 y6 y7 y8 y9 b7 b8 b9) (impl_BodyOk.j1 (k + 1) y0 y1 y2 y3 y4 y5 y6 y7 y8 y9 b7 b8 b9))
  | 0 => ⟨fun _ _ _ _ _ _ _ _ _ _ _ _ _ r h => by simp [impl_BodyOk.j0] at h, fun _ _ _ _ _ _ _ _ _ _ _ _ _ r h => by simp [impl_BodyOk.j1] at h⟩
  | k + 1 => by
    obtain ⟨ih0, ih1⟩ := impl_BodyOk.mono_l k
    refine ⟨?_, ?_⟩
    · intro y0 y1 y2 y3 y4 y5 y6 y7 y8 y9 b7 b8 b9
      unfold impl_BodyOk.j0
      repeat' first
      | (with_reducible exact ih0 _ _ _ _ _ _ _ _ _ _ _ _ _)
      | (with_reducible exact ih1 _ _ _ _ _ _ _ _ _ _ _ _ _)
      | (with_reducible exact LeO.refl _)
      | (with_reducible exact LeO.none _)
      | (with_reducible refine LeO.ite ?_ ?_)
      | (with_reducible refine LeO.bind ?_ (fun _ => ?_))
    · intro y0 y1 y2 y3 y4 y5 y6 y7 y8 y9 b7 b8 b9
      unfold impl_BodyOk.j1
      repeat' first
      | (with_reducible exact ih0 _ _ _ _ _ _ _ _ _ _ _ _ _)
      | (with_reducible exact ih1 _ _ _ _ _ _ _ _ _ _ _ _ _)
      | (with_reducible exact LeO.refl _)
      | (with_reducible exact LeO.none _)
      | (with_reducible refine LeO.ite ?_ ?_)
      | (with_reducible refine LeO.bind ?_ (fun _ => ?_))
theorem impl_BodyOk.mono : ∀ a0 a1 a2 a3 a4 a5 a6 a7 a8 a9 bT bU k, LeO (impl_BodyOk.f k a0 a1 a2 a3 a4 a5 a6 a7 a8 a9 bT bU) (impl_BodyOk.f (k + 1) a0 a1 a2 a3 a4 a5 a6 a7 a8 a9 bT bU) := by
  intro a0 a1 a2 a3 a4 a5 a6 a7 a8 a9 bT bU k
  obtain ⟨ih0, ih1⟩ := impl_BodyOk.mono_l k
  unfold impl_BodyOk.f
  repeat' first
      | (with_reducible exact ih0 _ _ _ _ _ _ _ _ _ _ _ _ _)
      | (with_reducible exact ih1 _ _ _ _ _ _ _ _ _ _ _ _ _)
      | (with_reducible exact LeO.refl _)
      | (with_reducible exact LeO.none _)
      | (with_reducible refine LeO.ite ?_ ?_)
      | (with_reducible refine LeO.bind ?_ (fun _ => ?_))
set_option maxHeartbeats 8000000 in
set_option maxRecDepth 100000 in
theorem impl_BodyOk.calls (k : Nat) (aC : Int) (aG : Int) (aH : Int) (aI : Int) (aK : Int) (aL : Int) (aD : Int) (aE : Int) (aM : Int) (aJ : Int) (aF : Int) (aB : Int) (r : Bool) (w : World) (h : impl_BodyOk.f k aC aG aH aI aK aL aD aE aM aJ aF aB = some r) :
    Calls Try.prog 58 #[.agg #[.int .i64 aC, .int .i64 aG, .int .i64 aH, .int .i64 aI, .int .i64 aK, .int .i64 aL, .int .i64 aD, .int .i64 aE, .int .i64 aM, .int .i64 aJ, .int .i64 aF, .int .i64 aB]] w fun e w' => e = .returned (.bool r) ∧ Below w.heap.size w w' := by
  have hu41 := Try.underlying41; have hu39 := Try.underlying39; have hu33 := Try.underlying33; have HB := az (Below.refl w.heap.size w); have H : ((impl_in.f aC 0 999999999).bind fun b3 => (if b3 = true then ((impl_ShapeOk.f aG aH aI).bind fun b4 => (if b4 = true then ((impl_isPlace.f aK aL).bind fun b5 => (if b5 = true then ((impl_isDrive.f aD aE).bind fun b6 => (if b6 = true then ((impl_in.f aM 0 1000).bind fun b1 => (impl_BodyOk.j0 k (!b1) aC aG aH aI aK aL aD aE aM aJ aF aB)) else (impl_BodyOk.j0 k true aC aG aH aI aK aL aD aE aM aJ aF aB))) else (impl_BodyOk.j0 k true aC aG aH aI aK aL aD aE aM aJ aF aB))) else (impl_BodyOk.j0 k true aC aG aH aI aK aL aD aE aM aJ aF aB))) else (impl_BodyOk.j0 k true aC aG aH aI aK aL aD aE aM aJ aF aB))) = some r := h; clear h; have bV := az H; clear H; go_enter Try.func58, Try.ntmps58
  go_upto_region 1 with (first | ((with_reducible refine gate_dst (N := 1) rfl ?_); refine bx (N := 1) (cs := #[.int .i64 aC, .int .i64 aG, .int .i64 aH, .int .i64 aI, .int .i64 aK, .int .i64 aL, .int .i64 aD, .int .i64 aE, .int .i64 aM, .int .i64 aJ, .int .i64 aF, .int .i64 aB]) (t := 41) ?_; intro bD hg w3 hbox hb; have aA := az hbox; have bY := az ((gE hg (qL HB) : w.heap.size ≤ bD)); have yM := bY; replace HB := bS HB hb; clear hb hbox hg))
  (try simp only [Act.put, List.setIfInBounds_toArray, List.set_cons_zero, List.set_cons_succ])
  go_cut [31] (fun yH wc => ∃ (kq : Nat) (b2 : Bool), yH = .bool b2 ∧ Aside0 (impl_BodyOk.j0 kq b2 aC aG aH aI aK aL aD aE aM aJ aF aB = some r) ∧ Aside0 (kq ≤ k) ∧ Aside0 (wc.heap[bD]? = some (.cells #[.int .i64 aC, .int .i64 aG, .int .i64 aH, .int .i64 aI, .int .i64 aK, .int .i64 aL, .int .i64 aD, .int .i64 aE, .int .i64 aM, .int .i64 aJ, .int .i64 aF, .int .i64 aB] 41 (0, 0))) ∧ Aside0 (Below w.heap.size w wc))
  case first =>
    have H := bV.out; clear bV; replace H := qH H; obtain ⟨b3, A4, H⟩ := H
    try dsimp only at H
    by_cases c5 : b3 = true
    · subst c5; replace H := qT H; replace H := qH H; obtain ⟨b4, A6, H⟩ := H
      try dsimp only at H
      by_cases c7 : b4 = true
      · subst c7; replace H := qT H; replace H := qH H; obtain ⟨b5, A8, H⟩ := H
        try dsimp only at H
        by_cases c9 : b5 = true
        · subst c9; replace H := qT H; replace H := qH H; obtain ⟨b6, c4, H⟩ := H
          try dsimp only at H
          by_cases bL : b6 = true
          · subst bL; replace H := qT H; replace H := qH H; obtain ⟨b1, yI, H⟩ := H
            try dsimp only at H
            have H' := az H; clear H; obtain ⟨fO, fP, fQ, fR, fS, fT, fU, fV, fW, fX, cB, cC⟩ := cz12 aA.out; obtain ⟨fY, fZ, g0, g1, g2, g3, g4, g5, g6, g7, cD, cE⟩ := fz12 aA.out; go_wp2_with (first | ((with_reducible refine gate_callee (f := 82) rfl ?_); refine gl (some 6) Try.func82 #[.int .i64 aC, .int .i64 0, .int .i64 999999999] ?_; (with_reducible refine (impl_in.calls aC 0 999999999 true _ A4.out).mono ?_); rintro e w' ⟨rfl, ⟨nd, rfl⟩⟩; refine ⟨_, rfl, ?_⟩) | (go_at_call 65; (with_reducible refine (impl_ShapeOk.calls aG aH aI true _ A6.out).mono ?_); rintro e yQ ⟨rfl, hb⟩; replace aA := kBB aA hb; replace HB := bS HB hb; clear hb; obtain ⟨g8, g9, gA, gB, gC, gD, gF, gG, gH, gI, cF, cG⟩ := cz12 aA.out; obtain ⟨gJ, gL, gM, gN, gO, gP, gQ, gR, gS, gT, cH, cI⟩ := fz12 aA.out) | (go_at_call 66; (with_reducible refine (impl_isPlace.calls aK aL true _ A8.out).mono ?_); rintro e yR ⟨rfl, hb⟩; replace aA := kBB aA hb; replace HB := bS HB hb; clear hb; obtain ⟨gU, gV, gW, gX, gY, gZ, hA, hD, hE, hF, cJ, cK⟩ := cz12 aA.out; obtain ⟨hG, hH, hI, hJ, hK, hL, hM, hO, hP, hQ, cL, cM⟩ := fz12 aA.out) | (go_at_call 83; (with_reducible refine (impl_isDrive.calls aD aE true _ c4.out).mono ?_); rintro e yS ⟨rfl, hb⟩; replace aA := kBB aA hb; replace HB := bS HB hb; clear hb; obtain ⟨hR, hS, hU, hV, hW, hX, hY, hZ, jA, jB, cN, cO⟩ := cz12 aA.out; obtain ⟨jC, jD, jE, jF, jG, jH, jI, jJ, jK, jL, cP, cQ⟩ := fz12 aA.out) | (go_at_call 82; (with_reducible refine (impl_in.calls aM 0 1000 b1 _ yI.out).mono ?_); rintro e w' ⟨rfl, ⟨nd, rfl⟩⟩))
            go_meet
            case rel => exact ⟨_, (!b1), qG, H', ⟨qO⟩, ⟨qF aA⟩, ⟨qL HB⟩⟩
          replace bL := Bool.eq_false_iff.mpr bL; subst bL; replace H := qU H; have H' := az H; clear H; obtain ⟨jM, jN, jO, jP, jQ, jR, jS, jT, jU, jV, cR, cS⟩ := cz12 aA.out; obtain ⟨jW, jX, jY, jZ, l9, lA, lB, lC, lD, lE, cT, cU⟩ := fz12 aA.out; go_wp2_with (first | ((with_reducible refine gate_callee (f := 82) rfl ?_); refine gl (some 6) Try.func82 #[.int .i64 aC, .int .i64 0, .int .i64 999999999] ?_; (with_reducible refine (impl_in.calls aC 0 999999999 true _ A4.out).mono ?_); rintro e w' ⟨rfl, ⟨nd, rfl⟩⟩; refine ⟨_, rfl, ?_⟩) | (go_at_call 65; (with_reducible refine (impl_ShapeOk.calls aG aH aI true _ A6.out).mono ?_); rintro e yT ⟨rfl, hb⟩; replace aA := kBB aA hb; replace HB := bS HB hb; clear hb; obtain ⟨lF, lG, lH, lI, lJ, lK, lL, lM, lN, lO, cV, cW⟩ := cz12 aA.out; obtain ⟨lP, lQ, lR, lS, lT, lU, lV, lW, lX, lY, cX, cY⟩ := fz12 aA.out) | (go_at_call 66; (with_reducible refine (impl_isPlace.calls aK aL true _ A8.out).mono ?_); rintro e yU ⟨rfl, hb⟩; replace aA := kBB aA hb; replace HB := bS HB hb; clear hb; obtain ⟨lZ, m0, m1, m2, m3, m4, m5, m6, m7, m8, cZ, dA⟩ := cz12 aA.out; obtain ⟨m9, mA, mB, mC, mD, mE, mF, mG, mH, mI, dB, dC⟩ := fz12 aA.out) | (go_at_call 83; (with_reducible refine (impl_isDrive.calls aD aE false _ c4.out).mono ?_); rintro e yV ⟨rfl, hb⟩; replace aA := kBB aA hb; replace HB := bS HB hb; clear hb))
          go_meet
          case rel => exact ⟨_, (true), qG, H', ⟨qO⟩, ⟨qF aA⟩, ⟨qL HB⟩⟩
        replace c9 := Bool.eq_false_iff.mpr c9; subst c9; replace H := qU H; have H' := az H; clear H; obtain ⟨mJ, mK, mL, mM, mN, mO, mP, mQ, mR, mS, dD, dE⟩ := cz12 aA.out; obtain ⟨mT, mU, mV, mW, mX, mY, mZ, nA, nB, nC, dF, dG⟩ := fz12 aA.out; go_wp2_with (first | ((with_reducible refine gate_callee (f := 82) rfl ?_); refine gl (some 6) Try.func82 #[.int .i64 aC, .int .i64 0, .int .i64 999999999] ?_; (with_reducible refine (impl_in.calls aC 0 999999999 true _ A4.out).mono ?_); rintro e w' ⟨rfl, ⟨nd, rfl⟩⟩; refine ⟨_, rfl, ?_⟩) | (go_at_call 65; (with_reducible refine (impl_ShapeOk.calls aG aH aI true _ A6.out).mono ?_); rintro e yW ⟨rfl, hb⟩; replace aA := kBB aA hb; replace HB := bS HB hb; clear hb; obtain ⟨nD, nE, nF, nG, nH, nI, nJ, nK, nL, nM, dH, dI⟩ := cz12 aA.out; obtain ⟨nN, nO, nP, nQ, nR, nS, nT, nU, nV, nW, dJ, dK⟩ := fz12 aA.out) | (go_at_call 66; (with_reducible refine (impl_isPlace.calls aK aL false _ A8.out).mono ?_); rintro e yX ⟨rfl, hb⟩; replace aA := kBB aA hb; replace HB := bS HB hb; clear hb))
        go_meet
        case rel => exact ⟨_, (true), qG, H', ⟨qO⟩, ⟨qF aA⟩, ⟨qL HB⟩⟩
      replace c7 := Bool.eq_false_iff.mpr c7; subst c7; replace H := qU H; have H' := az H; clear H; obtain ⟨nX, nY, nZ, o0, o1, o2, o3, o4, o5, o6, dL, dM⟩ := cz12 aA.out; obtain ⟨o7, o8, o9, oA, oB, oC, oD, oE, oF, oG, dN, dO⟩ := fz12 aA.out; go_wp2_with (first | ((with_reducible refine gate_callee (f := 82) rfl ?_); refine gl (some 6) Try.func82 #[.int .i64 aC, .int .i64 0, .int .i64 999999999] ?_; (with_reducible refine (impl_in.calls aC 0 999999999 true _ A4.out).mono ?_); rintro e w' ⟨rfl, ⟨nd, rfl⟩⟩; refine ⟨_, rfl, ?_⟩) | (go_at_call 65; (with_reducible refine (impl_ShapeOk.calls aG aH aI false _ A6.out).mono ?_); rintro e yY ⟨rfl, hb⟩; replace aA := kBB aA hb; replace HB := bS HB hb; clear hb))
      go_meet
      case rel => exact ⟨_, (true), qG, H', ⟨qO⟩, ⟨qF aA⟩, ⟨qL HB⟩⟩
    replace c5 := Bool.eq_false_iff.mpr c5; subst c5; replace H := qU H; have H' := az H; clear H; obtain ⟨oH, oI, oJ, oK, oL, oM, oN, oO, oP, oQ, dP, dQ⟩ := cz12 aA.out; obtain ⟨oR, oS, oT, oU, oV, oW, oX, oY, oZ, p0, dR, dS⟩ := fz12 aA.out; go_wp2_with (first | ((with_reducible refine gate_callee (f := 82) rfl ?_); refine gl (some 6) Try.func82 #[.int .i64 aC, .int .i64 0, .int .i64 999999999] ?_; (with_reducible refine (impl_in.calls aC 0 999999999 false _ A4.out).mono ?_); rintro e w' ⟨rfl, ⟨nd, rfl⟩⟩; refine ⟨_, rfl, ?_⟩))
    go_meet
    case rel => exact ⟨_, (true), qG, H', ⟨qO⟩, ⟨qF aA⟩, ⟨qL HB⟩⟩
  case rest =>
    clear bV; obtain ⟨kq, b2, rfl, HA, bW, aA, HB⟩ := hcut
    cases kq with
    | zero => exact absurd HA.out (by simp [impl_BodyOk.j0])
    | succ yJ => ?_
    have H := HA.out; clear HA; simp only [impl_BodyOk.j0] at H; by_cases bE : b2 = true
    · subst bE; replace H := qT H; obtain rfl := Option.some.inj H; go_wp2
      go_ret
      exact ⟨qE, qL HB⟩
    replace bE := Bool.eq_false_iff.mpr bE; subst bE; replace H := qU H; have bK := az H; clear H
    go_upto_region 3 with (fail)
    go_cut [47] (fun yK wc => ∃ (kq : Nat) (b0 : Bool), yK = .bool b0 ∧ Aside0 (impl_BodyOk.j1 kq b0 aC aG aH aI aK aL aD aE aM aJ aF aB = some r) ∧ Aside0 (kq ≤ yJ) ∧ Aside0 (wc.heap[bD]? = some (.cells #[.int .i64 aC, .int .i64 aG, .int .i64 aH, .int .i64 aI, .int .i64 aK, .int .i64 aL, .int .i64 aD, .int .i64 aE, .int .i64 aM, .int .i64 aJ, .int .i64 aF, .int .i64 aB] 41 (0, 0))) ∧ Aside0 (Below w.heap.size w wc))
    case first =>
      have H := bK.out; clear bK; replace H := qH H; obtain ⟨bF, bX, H⟩ := H
      try dsimp only at H
      by_cases bM : bF = true
      · subst bM; replace H := qT H; replace H := qH H; obtain ⟨bG, c6, H⟩ := H
        try dsimp only at H
        by_cases bN : bG = true
        · subst bN; replace H := qT H; replace H := qH H; obtain ⟨bC, yL, H⟩ := H
          try dsimp only at H
          have H' := az H; clear H; obtain ⟨p1, p2, p3, p4, p5, p6, p7, p8, p9, pA, dT, dU⟩ := cz12 aA.out; obtain ⟨pB, pC, pD, pE, pF, pG, pH, pI, pJ, pK, dV, dW⟩ := fz12 aA.out; go_wp2_with (first | ((with_reducible refine gate_callee (f := 82) rfl ?_); refine gl (some 34) Try.func82 #[.int .i64 aJ, .int .i64 0, .int .i64 256] ?_; (with_reducible refine (impl_in.calls aJ 0 256 true _ bX.out).mono ?_); rintro e w' ⟨rfl, ⟨nd, rfl⟩⟩; refine ⟨_, rfl, ?_⟩) | (go_at_call 82; (with_reducible refine (impl_in.calls aF 0 256 true _ c6.out).mono ?_); rintro e w' ⟨rfl, ⟨nd, rfl⟩⟩) | (go_at_call 82; (with_reducible refine (impl_in.calls aB 0 8 bC _ yL.out).mono ?_); rintro e w' ⟨rfl, ⟨nd, rfl⟩⟩))
          go_meet
          case rel => exact ⟨_, (!bC), qG, H', ⟨by have := bW.out; first | omega | exact Nat.le_refl _⟩, ⟨qF aA⟩, ⟨qL HB⟩⟩
        replace bN := Bool.eq_false_iff.mpr bN; subst bN; replace H := qU H; have H' := az H; clear H; obtain ⟨pL, pM, pN, pO, pP, pQ, pR, pS, pT, pU, dX, dY⟩ := cz12 aA.out; obtain ⟨pV, pW, pX, pY, pZ, r0, r1, r2, r3, r4, dZ, e0⟩ := fz12 aA.out; go_wp2_with (first | ((with_reducible refine gate_callee (f := 82) rfl ?_); refine gl (some 34) Try.func82 #[.int .i64 aJ, .int .i64 0, .int .i64 256] ?_; (with_reducible refine (impl_in.calls aJ 0 256 true _ bX.out).mono ?_); rintro e w' ⟨rfl, ⟨nd, rfl⟩⟩; refine ⟨_, rfl, ?_⟩) | (go_at_call 82; (with_reducible refine (impl_in.calls aF 0 256 false _ c6.out).mono ?_); rintro e w' ⟨rfl, ⟨nd, rfl⟩⟩))
        go_meet
        case rel => exact ⟨_, (true), qG, H', ⟨by have := bW.out; first | omega | exact Nat.le_refl _⟩, ⟨qF aA⟩, ⟨qL HB⟩⟩
      replace bM := Bool.eq_false_iff.mpr bM; subst bM; replace H := qU H; have H' := az H; clear H; obtain ⟨r5, r6, r7, r8, r9, rA, rB, rC, rD, rE, e1, e2⟩ := cz12 aA.out; obtain ⟨rF, rG, rH, rI, rJ, rK, rL, rM, rN, rO, e3, e4⟩ := fz12 aA.out; go_wp2_with (first | ((with_reducible refine gate_callee (f := 82) rfl ?_); refine gl (some 34) Try.func82 #[.int .i64 aJ, .int .i64 0, .int .i64 256] ?_; (with_reducible refine (impl_in.calls aJ 0 256 false _ bX.out).mono ?_); rintro e w' ⟨rfl, ⟨nd, rfl⟩⟩; refine ⟨_, rfl, ?_⟩))
      go_meet
      case rel => exact ⟨_, (true), qG, H', ⟨by have := bW.out; first | omega | exact Nat.le_refl _⟩, ⟨qF aA⟩, ⟨qL HB⟩⟩
    case rest =>
      clear bK; (try clear bE); obtain ⟨kq, b0, rfl, HA, yO, aA, HB⟩ := hcut
      cases kq with
      | zero => exact absurd HA.out (by simp [impl_BodyOk.j1])
      | succ yP => ?_
      have H := HA.out; clear HA; simp only [impl_BodyOk.j1] at H; by_cases bO : b0 = true
      · subst bO; replace H := qT H; obtain rfl := Option.some.inj H; go_wp2
        go_ret
        exact ⟨qE, qL HB⟩
      replace bO := Bool.eq_false_iff.mpr bO; subst bO; replace H := qU H; replace H := qH H; obtain ⟨bH, bB, H⟩ := H
      try dsimp only at H
      by_cases bP : bH = true
      · subst bP; replace H := qT H; by_cases aZ : (aD == 0 && (aE == 0)) = true
        · rw [if_pos aZ] at H; have bZ : (aD == 0 && (aE == 0)) = true := aZ; (try (have c0 : decide (aD = 0 && (aE == 0)) = true := by simpa using aZ)); (try (have c1 : (aD == 0 && (aE == 0)) = true := by simpa using aZ)); clear aZ; by_cases bA : aB = 0
          · rw [if_pos bA] at H; have c2 : (aB == 0) = true := beq_iff_eq.mpr bA; have c3 : (aB != 0) = false := bne_eq_false_iff_eq.mpr bA; clear bA; replace H := qH H; obtain ⟨bI, c8, H⟩ := H
            try dsimp only at H
            by_cases bQ : bI = true
            · subst bQ; replace H := qT H; obtain rfl := Option.some.inj H; obtain ⟨rP, rQ, rR, rS, rT, rU, rV, rW, rX, rY, e5, e6⟩ := cz12 aA.out; obtain ⟨rZ, sA, sB, sC, sD, sE, sF, sG, sH, sI, e7, e8⟩ := fz12 aA.out; go_wp2_with (first | ((with_reducible refine gate_callee (f := 51) rfl ?_); refine gl (some 53) Try.func51 #[.agg #[.int .i64 aC, .int .i64 aG, .int .i64 aH, .int .i64 aI, .int .i64 aK, .int .i64 aL, .int .i64 aD, .int .i64 aE, .int .i64 aM, .int .i64 aJ, .int .i64 aF, .int .i64 aB]] ?_; (with_reducible refine (impl_Body_fixed.calls aC aG aH aI aK aL aD aE aM aJ aF aB true _ bB.out).mono ?_); rintro e yZ ⟨rfl, hb⟩; refine ⟨_, rfl, ?_⟩; replace aA := kBB aA hb; replace HB := bS HB hb; clear hb; obtain ⟨sJ, sK, sL, sM, sN, sO, sP, sQ, sR, sS, e9, eA⟩ := cz12 aA.out; obtain ⟨sT, sU, sV, sW, sX, sY, sZ, t0, t1, t2, eB, eC⟩ := fz12 aA.out) | (go_at_call 56; (with_reducible refine (impl_Body_sleeps.calls aC aG aH aI aK aL aD aE aM aJ aF aB true _ c8.out).mono ?_); rintro e zA ⟨rfl, hb⟩; replace aA := kBB aA hb; replace HB := bS HB hb; clear hb))
              go_ret
              exact ⟨qE, qL HB⟩
            replace bQ := Bool.eq_false_iff.mpr bQ; subst bQ; replace H := qU H; obtain rfl := Option.some.inj H; obtain ⟨t3, t4, t5, t6, t7, t8, t9, tA, tB, tC, eD, eE⟩ := cz12 aA.out; obtain ⟨tD, tE, tF, tG, tH, tI, tJ, tK, tL, tM, eF, eG⟩ := fz12 aA.out; go_wp2_with (first | ((with_reducible refine gate_callee (f := 51) rfl ?_); refine gl (some 53) Try.func51 #[.agg #[.int .i64 aC, .int .i64 aG, .int .i64 aH, .int .i64 aI, .int .i64 aK, .int .i64 aL, .int .i64 aD, .int .i64 aE, .int .i64 aM, .int .i64 aJ, .int .i64 aF, .int .i64 aB]] ?_; (with_reducible refine (impl_Body_fixed.calls aC aG aH aI aK aL aD aE aM aJ aF aB true _ bB.out).mono ?_); rintro e zB ⟨rfl, hb⟩; refine ⟨_, rfl, ?_⟩; replace aA := kBB aA hb; replace HB := bS HB hb; clear hb; obtain ⟨tN, tO, tP, tQ, tR, tS, tT, tU, tV, tW, eH, eI⟩ := cz12 aA.out; obtain ⟨tX, tY, tZ, u0, u1, u2, u3, u4, u5, u6, eJ, eK⟩ := fz12 aA.out) | (go_at_call 56; (with_reducible refine (impl_Body_sleeps.calls aC aG aH aI aK aL aD aE aM aJ aF aB false _ c8.out).mono ?_); rintro e zC ⟨rfl, hb⟩; replace aA := kBB aA hb; replace HB := bS HB hb; clear hb))
            go_ret
            exact ⟨qE, qL HB⟩
          rw [if_neg bA] at H; have c2 : (aB == 0) = false := beq_eq_false_iff_ne.mpr bA; have c3 : (aB != 0) = true := bne_iff_ne.mpr bA; obtain rfl := Option.some.inj H; obtain ⟨u7, u9, uA, uB, uC, uD, uE, uF, uG, uH, eL, eM⟩ := cz12 aA.out; obtain ⟨uI, uJ, uK, uL, uM, uN, uO, uP, uQ, uR, eN, eO⟩ := fz12 aA.out; go_wp2_with (first | ((with_reducible refine gate_callee (f := 51) rfl ?_); refine gl (some 53) Try.func51 #[.agg #[.int .i64 aC, .int .i64 aG, .int .i64 aH, .int .i64 aI, .int .i64 aK, .int .i64 aL, .int .i64 aD, .int .i64 aE, .int .i64 aM, .int .i64 aJ, .int .i64 aF, .int .i64 aB]] ?_; (with_reducible refine (impl_Body_fixed.calls aC aG aH aI aK aL aD aE aM aJ aF aB true _ bB.out).mono ?_); rintro e zD ⟨rfl, hb⟩; refine ⟨_, rfl, ?_⟩; replace aA := kBB aA hb; replace HB := bS HB hb; clear hb; obtain ⟨uS, uT, uU, uV, uW, uX, uY, uZ, v0, v1, eP, eQ⟩ := cz12 aA.out; obtain ⟨v2, v3, v4, v5, v6, v7, v8, v9, vA, vB, eR, eS⟩ := fz12 aA.out))
          go_ret
          exact ⟨qE, qL HB⟩
        rw [if_neg aZ] at H
        have bZ : (aD == 0 && (aE == 0)) = false := by simpa using aZ
        (try (have c0 : decide (aD = 0 && (aE == 0)) = false := by simpa using aZ)); (try (have c1 : (aD == 0 && (aE == 0)) = false := by simpa using aZ)); (try (have yN : ¬ (aD = 0 && (aE == 0)) := by simpa using aZ)); clear aZ; obtain rfl := Option.some.inj H; obtain ⟨vC, vD, vE, vF, vG, vH, vI, vJ, vK, vL, eT, eU⟩ := cz12 aA.out; obtain ⟨vM, vN, vO, vP, vQ, vR, vS, vT, vU, vV, eV, eW⟩ := fz12 aA.out; go_wp2_with (first | ((with_reducible refine gate_callee (f := 51) rfl ?_); refine gl (some 53) Try.func51 #[.agg #[.int .i64 aC, .int .i64 aG, .int .i64 aH, .int .i64 aI, .int .i64 aK, .int .i64 aL, .int .i64 aD, .int .i64 aE, .int .i64 aM, .int .i64 aJ, .int .i64 aF, .int .i64 aB]] ?_; (with_reducible refine (impl_Body_fixed.calls aC aG aH aI aK aL aD aE aM aJ aF aB true _ bB.out).mono ?_); rintro e zE ⟨rfl, hb⟩; refine ⟨_, rfl, ?_⟩; replace aA := kBB aA hb; replace HB := bS HB hb; clear hb))
        go_ret
        exact ⟨qE, qL HB⟩
      replace bP := Bool.eq_false_iff.mpr bP; subst bP; replace H := qU H; replace H := qH H; obtain ⟨bJ, cA, H⟩ := H
      try dsimp only at H
      by_cases bR : bJ = true
      · subst bR; replace H := qT H; obtain rfl := Option.some.inj H; obtain ⟨vW, vX, vY, vZ, w0, w1, w2, w4, w5, w6, eX, eY⟩ := cz12 aA.out; obtain ⟨w7, w8, w9, wA, wB, wC, wD, wE, wF, wG, eZ, fA⟩ := fz12 aA.out; go_wp2_with (first | ((with_reducible refine gate_callee (f := 51) rfl ?_); refine gl (some 53) Try.func51 #[.agg #[.int .i64 aC, .int .i64 aG, .int .i64 aH, .int .i64 aI, .int .i64 aK, .int .i64 aL, .int .i64 aD, .int .i64 aE, .int .i64 aM, .int .i64 aJ, .int .i64 aF, .int .i64 aB]] ?_; (with_reducible refine (impl_Body_fixed.calls aC aG aH aI aK aL aD aE aM aJ aF aB false _ bB.out).mono ?_); rintro e zF ⟨rfl, hb⟩; refine ⟨_, rfl, ?_⟩; replace aA := kBB aA hb; replace HB := bS HB hb; clear hb; obtain ⟨wH, wI, wJ, wK, wL, wM, wN, wO, wP, wQ, fB, fC⟩ := cz12 aA.out; obtain ⟨wR, wS, wT, wU, wV, wW, wX, wY, wZ, x0, fD, fE⟩ := fz12 aA.out) | (go_at_call 56; (with_reducible refine (impl_Body_sleeps.calls aC aG aH aI aK aL aD aE aM aJ aF aB true _ cA.out).mono ?_); rintro e zG ⟨rfl, hb⟩; replace aA := kBB aA hb; replace HB := bS HB hb; clear hb))
        go_ret
        exact ⟨qE, qL HB⟩
      replace bR := Bool.eq_false_iff.mpr bR; subst bR; replace H := qU H; obtain rfl := Option.some.inj H; obtain ⟨x1, x2, x3, x4, x5, x6, x7, x8, x9, xA, fG, fH⟩ := cz12 aA.out; obtain ⟨xB, xC, xD, xE, xF, xG, xH, xI, xJ, xK, fI, fJ⟩ := fz12 aA.out; go_wp2_with (first | ((with_reducible refine gate_callee (f := 51) rfl ?_); refine gl (some 53) Try.func51 #[.agg #[.int .i64 aC, .int .i64 aG, .int .i64 aH, .int .i64 aI, .int .i64 aK, .int .i64 aL, .int .i64 aD, .int .i64 aE, .int .i64 aM, .int .i64 aJ, .int .i64 aF, .int .i64 aB]] ?_; (with_reducible refine (impl_Body_fixed.calls aC aG aH aI aK aL aD aE aM aJ aF aB false _ bB.out).mono ?_); rintro e zH ⟨rfl, hb⟩; refine ⟨_, rfl, ?_⟩; replace aA := kBB aA hb; replace HB := bS HB hb; clear hb; obtain ⟨xL, xM, xN, xO, xP, xQ, xR, xS, xT, xU, fK, fL⟩ := cz12 aA.out; obtain ⟨xV, xW, xX, xY, xZ, yA, yB, yC, yD, yE, fM, fN⟩ := fz12 aA.out) | (go_at_call 56; (with_reducible refine (impl_Body_sleeps.calls aC aG aH aI aK aL aD aE aM aJ aF aB false _ cA.out).mono ?_); rintro e zI ⟨rfl, hb⟩; replace aA := kBB aA hb; replace HB := bS HB hb; clear hb))
      go_ret
      exact ⟨qE, qL HB⟩
end Go.Proofs.Ytdngjedhbnoaoaa.PBig
