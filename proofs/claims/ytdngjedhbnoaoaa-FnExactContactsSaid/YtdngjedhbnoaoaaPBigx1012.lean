/- What these functions compute, each walked once: spec_l6Drive, spec_ShapeOk, spec_l3Place, spec_BodyOk; for all arguments and worlds, under the conditions that each theorem names. -/
import Derived.Test.YtdngjedhbnoaoaaSq
import Derived.Test.YtdngjedhbnoaoaaPBigx1001
import Derived.Test.YtdngjedhbnoaoaaPBigx1009
namespace Go.Proofs.Ytdngjedhbnoaoaa.PBig
open Go.RowKit Go.Proofs.YtdngjedhbnoaoaaW.PrintWords Go.Proofs.YtdngjedhbnoaoaaW.PrintLast Go.Proofs.YtdngjedhbnoaoaaW.PrintMore
attribute [local go_sem] max2_int min2_int max_two min_two max_three min_three max_four min_four   -- for this text's walks alone
set_option linter.unusedVariables false
set_option linter.unusedSimpArgs false

/-! ### spec_l6Drive: function 80 -/
def spec_l6Drive.f (a0 : Int) (a2 : Int) : Option (Bool) := (spec_l1In.f a0 (-20000000) 20000000).bind fun a3 => (if a3 = true then ((spec_l1In.f a2 (-20000000) 20000000).bind fun a4 => (some a4)) else (some false))
set_option maxHeartbeats 8000000 in
set_option maxRecDepth 100000 in
theorem spec_l6Drive.calls (a0 : Int) (a2 : Int) (r : Bool) (w : World) (h : spec_l6Drive.f a0 a2 = some r) :
    Calls Try.prog 80 #[.agg #[.int .i64 a0, .int .i64 a2]] w fun e w' => e = .returned (.bool r) ∧ Below w.heap.size w w' := by
  have hu33 := Try.underlying33; have HB := az (Below.refl w.heap.size w); have H : ((spec_l1In.f a0 (-20000000) 20000000).bind fun a3 => (if a3 = true then ((spec_l1In.f a2 (-20000000) 20000000).bind fun a4 => (some a4)) else (some false))) = some r := h; clear h; replace H := qH H; obtain ⟨a3, A2, H⟩ := H
  try dsimp only at H
  by_cases c3 : a3 = true
  · subst c3; replace H := qT H; replace H := qH H; obtain ⟨a4, A4, H⟩ := H
    try dsimp only at H
    obtain rfl := Option.some.inj H; go_enter Try.func80, Try.ntmps80; go_wp2_with (first | ((with_reducible refine gate_dst (N := 1) rfl ?_); refine bx (N := 1) (cs := #[.int .i64 a0, .int .i64 a2]) (t := 33) ?_; intro a5 hg w5 hbox hb; have a1 := az hbox; have a6 := az ((gE hg (qL HB) : w.heap.size ≤ a5)); have a7 := a6; replace HB := bS HB hb; clear hb hbox hg; obtain ⟨a8, a9⟩ := cz2 a1.out; have aA := blk_frozen a1.out 0; have aB := blk_frozen a1.out 1) | ((with_reducible refine gate_callee (f := 77) rfl ?_); refine gl (some 5) Try.func77 #[.int .i64 a0, .int .i64 (-20000000), .int .i64 20000000] ?_; (with_reducible refine (spec_l1In.calls a0 (-20000000) 20000000 true _ A2.out).mono ?_); rintro e w' ⟨rfl, ⟨nd, rfl⟩⟩; refine ⟨_, rfl, ?_⟩) | (go_at_call 77; (with_reducible refine (spec_l1In.calls a2 (-20000000) 20000000 a4 _ A4.out).mono ?_); rintro e w' ⟨rfl, ⟨nd, rfl⟩⟩))
    go_ret
    exact ⟨qE, qL HB⟩
  replace c3 := Bool.eq_false_iff.mpr c3; subst c3; replace H := qU H; obtain rfl := Option.some.inj H; go_enter Try.func80, Try.ntmps80; go_wp2_with (first | ((with_reducible refine gate_dst (N := 1) rfl ?_); refine bx (N := 1) (cs := #[.int .i64 a0, .int .i64 a2]) (t := 33) ?_; intro a5 hg w7 hbox hb; have a1 := az hbox; have a6 := az ((gE hg (qL HB) : w.heap.size ≤ a5)); have a7 := a6; replace HB := bS HB hb; clear hb hbox hg; obtain ⟨aC, aD⟩ := cz2 a1.out; have aE := blk_frozen a1.out 0; have aF := blk_frozen a1.out 1) | ((with_reducible refine gate_callee (f := 77) rfl ?_); refine gl (some 5) Try.func77 #[.int .i64 a0, .int .i64 (-20000000), .int .i64 20000000] ?_; (with_reducible refine (spec_l1In.calls a0 (-20000000) 20000000 false _ A2.out).mono ?_); rintro e w' ⟨rfl, ⟨nd, rfl⟩⟩; refine ⟨_, rfl, ?_⟩))
  go_ret
  exact ⟨qE, qL HB⟩

/-! ### spec_ShapeOk: function 78 -/
def spec_ShapeOk.f (a0 : Int) (a2 : Int) (a5 : Int) : Option (Bool) := if a0 = 1 then ((spec_l1In.f a2 1 25600).bind fun a6 => (if a6 = true then (some (a5 == 0)) else (some false))) else (if a0 = 2 then ((spec_l1In.f a2 1 25600).bind fun a7 => (if a7 = true then ((spec_l1In.f a5 1 25600).bind fun a8 => (some a8)) else (some false))) else (some false))
set_option maxHeartbeats 8000000 in
set_option maxRecDepth 100000 in
theorem spec_ShapeOk.calls (a0 : Int) (a2 : Int) (a5 : Int) (r : Bool) (w : World) (h : spec_ShapeOk.f a0 a2 a5 = some r) :
    Calls Try.prog 78 #[.agg #[.int .i64 a0, .int .i64 a2, .int .i64 a5]] w fun e w' => e = .returned (.bool r) ∧ Below w.heap.size w w' := by
  have hu39 := Try.underlying39; have HB := az (Below.refl w.heap.size w); have H : (if a0 = 1 then ((spec_l1In.f a2 1 25600).bind fun a6 => (if a6 = true then (some (a5 == 0)) else (some false))) else (if a0 = 2 then ((spec_l1In.f a2 1 25600).bind fun a7 => (if a7 = true then ((spec_l1In.f a5 1 25600).bind fun a8 => (some a8)) else (some false))) else (some false))) = some r := h; clear h; by_cases c2 : a0 = 1
  · rw [if_pos c2] at H; have aC : (a0 == 1) = true := beq_iff_eq.mpr c2; have aD : (a0 != 1) = false := bne_eq_false_iff_eq.mpr c2; clear c2; replace H := qH H; obtain ⟨a6, A3, H⟩ := H
    try dsimp only at H
    by_cases c4 : a6 = true
    · subst c4; replace H := qT H; obtain rfl := Option.some.inj H; go_enter Try.func78, Try.ntmps78; go_wp2_with (first | ((with_reducible refine gate_dst (N := 1) rfl ?_); refine bx (N := 1) (cs := #[.int .i64 a0, .int .i64 a2, .int .i64 a5]) (t := 39) ?_; intro a3 hg w5 hbox hb; have a1 := az hbox; have a4 := az ((gE hg (qL HB) : w.heap.size ≤ a3)); have a9 := a4; replace HB := bS HB hb; clear hb hbox hg; obtain ⟨aY, aZ, b0⟩ := cz3 a1.out; obtain ⟨b1, b2, b3⟩ := fz3 a1.out) | ((with_reducible refine gate_callee (f := 77) rfl ?_); refine gl (some 9) Try.func77 #[.int .i64 a2, .int .i64 1, .int .i64 25600] ?_; (with_reducible refine (spec_l1In.calls a2 1 25600 true _ A3.out).mono ?_); rintro e w' ⟨rfl, ⟨nd, rfl⟩⟩; refine ⟨_, rfl, ?_⟩))
      go_ret
      exact ⟨qE, qL HB⟩
    replace c4 := Bool.eq_false_iff.mpr c4; subst c4; replace H := qU H; obtain rfl := Option.some.inj H; go_enter Try.func78, Try.ntmps78; go_wp2_with (first | ((with_reducible refine gate_dst (N := 1) rfl ?_); refine bx (N := 1) (cs := #[.int .i64 a0, .int .i64 a2, .int .i64 a5]) (t := 39) ?_; intro a3 hg w7 hbox hb; have a1 := az hbox; have a4 := az ((gE hg (qL HB) : w.heap.size ≤ a3)); have a9 := a4; replace HB := bS HB hb; clear hb hbox hg; obtain ⟨b4, b5, b6⟩ := cz3 a1.out; obtain ⟨b7, b8, b9⟩ := fz3 a1.out) | ((with_reducible refine gate_callee (f := 77) rfl ?_); refine gl (some 9) Try.func77 #[.int .i64 a2, .int .i64 1, .int .i64 25600] ?_; (with_reducible refine (spec_l1In.calls a2 1 25600 false _ A3.out).mono ?_); rintro e w' ⟨rfl, ⟨nd, rfl⟩⟩; refine ⟨_, rfl, ?_⟩))
    go_ret
    exact ⟨qE, qL HB⟩
  rw [if_neg c2] at H; have aC : (a0 == 1) = false := beq_eq_false_iff_ne.mpr c2; have aD : (a0 != 1) = true := bne_iff_ne.mpr c2; by_cases c9 : a0 = 2
  · rw [if_pos c9] at H; have aE : (a0 == 2) = true := beq_iff_eq.mpr c9; have aF : (a0 != 2) = false := bne_eq_false_iff_eq.mpr c9; clear c9; replace H := qH H; obtain ⟨a7, aB, H⟩ := H
    try dsimp only at H
    by_cases aA : a7 = true
    · subst aA; replace H := qT H; replace H := qH H; obtain ⟨a8, bA, H⟩ := H
      try dsimp only at H
      obtain rfl := Option.some.inj H; go_enter Try.func78, Try.ntmps78; go_wp2_with (first | ((with_reducible refine gate_dst (N := 1) rfl ?_); refine bx (N := 1) (cs := #[.int .i64 a0, .int .i64 a2, .int .i64 a5]) (t := 39) ?_; intro a3 hg bB hbox hb; have a1 := az hbox; have a4 := az ((gE hg (qL HB) : w.heap.size ≤ a3)); have a9 := a4; replace HB := bS HB hb; clear hb hbox hg; obtain ⟨aG, aH, aI⟩ := cz3 a1.out; obtain ⟨aJ, aK, aL⟩ := fz3 a1.out) | ((with_reducible refine gate_callee (f := 77) rfl ?_); refine gl (some 19) Try.func77 #[.int .i64 a2, .int .i64 1, .int .i64 25600] ?_; (with_reducible refine (spec_l1In.calls a2 1 25600 true _ aB.out).mono ?_); rintro e w' ⟨rfl, ⟨nd, rfl⟩⟩; refine ⟨_, rfl, ?_⟩) | (go_at_call 77; (with_reducible refine (spec_l1In.calls a5 1 25600 a8 _ bA.out).mono ?_); rintro e w' ⟨rfl, ⟨nd, rfl⟩⟩))
      go_ret
      exact ⟨qE, qL HB⟩
    replace aA := Bool.eq_false_iff.mpr aA; subst aA; replace H := qU H; obtain rfl := Option.some.inj H; go_enter Try.func78, Try.ntmps78; go_wp2_with (first | ((with_reducible refine gate_dst (N := 1) rfl ?_); refine bx (N := 1) (cs := #[.int .i64 a0, .int .i64 a2, .int .i64 a5]) (t := 39) ?_; intro a3 hg bC hbox hb; have a1 := az hbox; have a4 := az ((gE hg (qL HB) : w.heap.size ≤ a3)); have a9 := a4; replace HB := bS HB hb; clear hb hbox hg; obtain ⟨aM, aN, aO⟩ := cz3 a1.out; obtain ⟨aP, aQ, aR⟩ := fz3 a1.out) | ((with_reducible refine gate_callee (f := 77) rfl ?_); refine gl (some 19) Try.func77 #[.int .i64 a2, .int .i64 1, .int .i64 25600] ?_; (with_reducible refine (spec_l1In.calls a2 1 25600 false _ aB.out).mono ?_); rintro e w' ⟨rfl, ⟨nd, rfl⟩⟩; refine ⟨_, rfl, ?_⟩))
    go_ret
    exact ⟨qE, qL HB⟩
  rw [if_neg c9] at H; have aE : (a0 == 2) = false := beq_eq_false_iff_ne.mpr c9; have aF : (a0 != 2) = true := bne_iff_ne.mpr c9; obtain rfl := Option.some.inj H; go_enter Try.func78, Try.ntmps78; go_wp2_with (first | ((with_reducible refine gate_dst (N := 1) rfl ?_); refine bx (N := 1) (cs := #[.int .i64 a0, .int .i64 a2, .int .i64 a5]) (t := 39) ?_; intro a3 hg bD hbox hb; have a1 := az hbox; have a4 := az ((gE hg (qL HB) : w.heap.size ≤ a3)); have a9 := a4; replace HB := bS HB hb; clear hb hbox hg; obtain ⟨aS, aT, aU⟩ := cz3 a1.out; obtain ⟨aV, aW, aX⟩ := fz3 a1.out))
  go_ret
  exact ⟨qE, qL HB⟩

/-! ### spec_l3Place: function 79 -/
def spec_l3Place.f (a0 : Int) (a2 : Int) : Option (Bool) := (spec_l1In.f a0 (-2560000) 2560000).bind fun a3 => (if a3 = true then ((spec_l1In.f a2 (-2560000) 2560000).bind fun a4 => (some a4)) else (some false))
set_option maxHeartbeats 8000000 in
set_option maxRecDepth 100000 in
theorem spec_l3Place.calls (a0 : Int) (a2 : Int) (r : Bool) (w : World) (h : spec_l3Place.f a0 a2 = some r) :
    Calls Try.prog 79 #[.agg #[.int .i64 a0, .int .i64 a2]] w fun e w' => e = .returned (.bool r) ∧ Below w.heap.size w w' := by
  have hu33 := Try.underlying33; have HB := az (Below.refl w.heap.size w); have H : ((spec_l1In.f a0 (-2560000) 2560000).bind fun a3 => (if a3 = true then ((spec_l1In.f a2 (-2560000) 2560000).bind fun a4 => (some a4)) else (some false))) = some r := h; clear h; replace H := qH H; obtain ⟨a3, A2, H⟩ := H
  try dsimp only at H
  by_cases c3 : a3 = true
  · subst c3; replace H := qT H; replace H := qH H; obtain ⟨a4, A4, H⟩ := H
    try dsimp only at H
    obtain rfl := Option.some.inj H; go_enter Try.func79, Try.ntmps79; go_wp2_with (first | ((with_reducible refine gate_dst (N := 1) rfl ?_); refine bx (N := 1) (cs := #[.int .i64 a0, .int .i64 a2]) (t := 33) ?_; intro a5 hg w5 hbox hb; have a1 := az hbox; have a6 := az ((gE hg (qL HB) : w.heap.size ≤ a5)); have a7 := a6; replace HB := bS HB hb; clear hb hbox hg; obtain ⟨a8, a9⟩ := cz2 a1.out; have aA := blk_frozen a1.out 0; have aB := blk_frozen a1.out 1) | ((with_reducible refine gate_callee (f := 77) rfl ?_); refine gl (some 5) Try.func77 #[.int .i64 a0, .int .i64 (-2560000), .int .i64 2560000] ?_; (with_reducible refine (spec_l1In.calls a0 (-2560000) 2560000 true _ A2.out).mono ?_); rintro e w' ⟨rfl, ⟨nd, rfl⟩⟩; refine ⟨_, rfl, ?_⟩) | (go_at_call 77; (with_reducible refine (spec_l1In.calls a2 (-2560000) 2560000 a4 _ A4.out).mono ?_); rintro e w' ⟨rfl, ⟨nd, rfl⟩⟩))
    go_ret
    exact ⟨qE, qL HB⟩
  replace c3 := Bool.eq_false_iff.mpr c3; subst c3; replace H := qU H; obtain rfl := Option.some.inj H; go_enter Try.func79, Try.ntmps79; go_wp2_with (first | ((with_reducible refine gate_dst (N := 1) rfl ?_); refine bx (N := 1) (cs := #[.int .i64 a0, .int .i64 a2]) (t := 33) ?_; intro a5 hg w7 hbox hb; have a1 := az hbox; have a6 := az ((gE hg (qL HB) : w.heap.size ≤ a5)); have a7 := a6; replace HB := bS HB hb; clear hb hbox hg; obtain ⟨aC, aD⟩ := cz2 a1.out; have aE := blk_frozen a1.out 0; have aF := blk_frozen a1.out 1) | ((with_reducible refine gate_callee (f := 77) rfl ?_); refine gl (some 5) Try.func77 #[.int .i64 a0, .int .i64 (-2560000), .int .i64 2560000] ?_; (with_reducible refine (spec_l1In.calls a0 (-2560000) 2560000 false _ A2.out).mono ?_); rintro e w' ⟨rfl, ⟨nd, rfl⟩⟩; refine ⟨_, rfl, ?_⟩))
  go_ret
  exact ⟨qE, qL HB⟩

attribute [local go_sem high] eqA33
/-! ### spec_BodyOk: function 54 -/
def spec_BodyOk.j0 : Nat → Bool → Int → Int → Int → Int → Int → Int → Int → Int → Int → Int → Int → Int → Option (Bool)
  | 0, _, _, _, _, _, _, _, _, _, _, _, _, _ => none
  | k + 1, zS, bQ, bR, bT, bU, bV, bW, aX, aY, b4, bX, bY, aZ => if zS = true then (some false) else (if b4 = 0 then (if (aX == 0 && (aY == 0)) = true then (some (aZ == 0)) else (some false)) else (if aZ < 8 then (some true) else (some (aX == 0 && (aY == 0)))))
def spec_BodyOk.f (k : Nat) (aB : Int) (aH : Int) (aI : Int) (aJ : Int) (aK : Int) (aL : Int) (aC : Int) (aD : Int) (aF : Int) (aM : Int) (aG : Int) (aE : Int) : Option (Bool) := (spec_l1In.f aB 0 999999999).bind fun aP => (if aP = true then ((spec_ShapeOk.f aH aI aJ).bind fun aQ => (if aQ = true then ((spec_l3Place.f aK aL).bind fun aR => (if aR = true then ((spec_l6Drive.f aC aD).bind fun aS => (if aS = true then ((spec_l1In.f aF 0 1000).bind fun aT => (if aT = true then ((spec_l1In.f aM 0 256).bind fun aU => (if aU = true then ((spec_l1In.f aG 0 256).bind fun aV => (if aV = true then ((spec_l1In.f aE 0 8).bind fun aO => (spec_BodyOk.j0 k (!aO) aB aH aI aJ aK aL aC aD aF aM aG aE)) else (spec_BodyOk.j0 k true aB aH aI aJ aK aL aC aD aF aM aG aE))) else (spec_BodyOk.j0 k true aB aH aI aJ aK aL aC aD aF aM aG aE))) else (spec_BodyOk.j0 k true aB aH aI aJ aK aL aC aD aF aM aG aE))) else (spec_BodyOk.j0 k true aB aH aI aJ aK aL aC aD aF aM aG aE))) else (spec_BodyOk.j0 k true aB aH aI aJ aK aL aC aD aF aM aG aE))) else (spec_BodyOk.j0 k true aB aH aI aJ aK aL aC aD aF aM aG aE))) else (spec_BodyOk.j0 k true aB aH aI aJ aK aL aC aD aF aM aG aE))
theorem spec_BodyOk.mono_l : ∀ k, (∀ y0 y1 y2 y3 y4 y5 y6 y7 y8 y9 bB bC bD, LeO (spec_BodyOk.j0 k y0 y1 y2 y3 y4 y5 y6 y7 y8 y9 bB bC bD) (spec_BodyOk.j0 (k + 1) y0 y1 y2 y3 y4 y5 y6 y7 y8 y9 bB bC bD))
  | 0 => fun _ _ _ _ _ _ _ _ _ _ _ _ _ r h => by simp [spec_BodyOk.j0] at h
  | k + 1 => by
    have ih0 := spec_BodyOk.mono_l k
    · intro y0 y1 y2 y3 y4 y5 y6 y7 y8 y9 bB bC bD
      unfold spec_BodyOk.j0
      repeat' first
      | (with_reducible exact ih0 _ _ _ _ _ _ _ _ _ _ _ _ _)
      | (with_reducible exact LeO.refl _)
      | (with_reducible exact LeO.none _)
      | (with_reducible refine LeO.ite ?_ ?_)
      | (with_reducible refine LeO.bind ?_ (fun _ => ?_))
theorem spec_BodyOk.mono : ∀ a0 a1 a2 a3 a4 a5 a6 a7 a8 a9 bE bF k, LeO (spec_BodyOk.f k a0 a1 a2 a3 a4 a5 a6 a7 a8 a9 bE bF) (spec_BodyOk.f (k + 1) a0 a1 a2 a3 a4 a5 a6 a7 a8 a9 bE bF) := by
  intro a0 a1 a2 a3 a4 a5 a6 a7 a8 a9 bE bF k
  have ih0 := spec_BodyOk.mono_l k
  unfold spec_BodyOk.f
  repeat' first
      | (with_reducible exact ih0 _ _ _ _ _ _ _ _ _ _ _ _ _)
      | (with_reducible exact LeO.refl _)
      | (with_reducible exact LeO.none _)
      | (with_reducible refine LeO.ite ?_ ?_)
      | (with_reducible refine LeO.bind ?_ (fun _ => ?_))
set_option maxHeartbeats 8000000 in
set_option maxRecDepth 100000 in
theorem spec_BodyOk.calls (k : Nat) (aB : Int) (aH : Int) (aI : Int) (aJ : Int) (aK : Int) (aL : Int) (aC : Int) (aD : Int) (aF : Int) (aM : Int) (aG : Int) (aE : Int) (r : Bool) (w : World) (h : spec_BodyOk.f k aB aH aI aJ aK aL aC aD aF aM aG aE = some r) :
    Calls Try.prog 54 #[.agg #[.int .i64 aB, .int .i64 aH, .int .i64 aI, .int .i64 aJ, .int .i64 aK, .int .i64 aL, .int .i64 aC, .int .i64 aD, .int .i64 aF, .int .i64 aM, .int .i64 aG, .int .i64 aE]] w fun e w' => e = .returned (.bool r) ∧ Below w.heap.size w w' := by
  have hu41 := Try.underlying41; have hu39 := Try.underlying39; have hu33 := Try.underlying33; have HB := az (Below.refl w.heap.size w); have H : ((spec_l1In.f aB 0 999999999).bind fun aP => (if aP = true then ((spec_ShapeOk.f aH aI aJ).bind fun aQ => (if aQ = true then ((spec_l3Place.f aK aL).bind fun aR => (if aR = true then ((spec_l6Drive.f aC aD).bind fun aS => (if aS = true then ((spec_l1In.f aF 0 1000).bind fun aT => (if aT = true then ((spec_l1In.f aM 0 256).bind fun aU => (if aU = true then ((spec_l1In.f aG 0 256).bind fun aV => (if aV = true then ((spec_l1In.f aE 0 8).bind fun aO => (spec_BodyOk.j0 k (!aO) aB aH aI aJ aK aL aC aD aF aM aG aE)) else (spec_BodyOk.j0 k true aB aH aI aJ aK aL aC aD aF aM aG aE))) else (spec_BodyOk.j0 k true aB aH aI aJ aK aL aC aD aF aM aG aE))) else (spec_BodyOk.j0 k true aB aH aI aJ aK aL aC aD aF aM aG aE))) else (spec_BodyOk.j0 k true aB aH aI aJ aK aL aC aD aF aM aG aE))) else (spec_BodyOk.j0 k true aB aH aI aJ aK aL aC aD aF aM aG aE))) else (spec_BodyOk.j0 k true aB aH aI aJ aK aL aC aD aF aM aG aE))) else (spec_BodyOk.j0 k true aB aH aI aJ aK aL aC aD aF aM aG aE))) = some r := h; clear h; have bG := az H; clear H; go_enter Try.func54, Try.ntmps54
  go_upto_region 1 with (first | ((with_reducible refine gate_dst (N := 1) rfl ?_); refine bx (N := 1) (cs := #[.int .i64 aB, .int .i64 aH, .int .i64 aI, .int .i64 aJ, .int .i64 aK, .int .i64 aL, .int .i64 aC, .int .i64 aD, .int .i64 aF, .int .i64 aM, .int .i64 aG, .int .i64 aE]) (t := 41) ?_; intro b2 hg w3 hbox hb; have aA := az hbox; have bH := az ((gE hg (qL HB) : w.heap.size ≤ b2)); have zT := bH; replace HB := bS HB hb; clear hb hbox hg))
  (try simp only [Act.put, List.setIfInBounds_toArray, List.set_cons_zero, List.set_cons_succ])
  go_cut [48] (fun zU wc => ∃ (kq : Nat) (aW : Bool), zU = .bool aW ∧ Aside0 (spec_BodyOk.j0 kq aW aB aH aI aJ aK aL aC aD aF aM aG aE = some r) ∧ Aside0 (kq ≤ k) ∧ Aside0 (wc.heap[b2]? = some (.cells #[.int .i64 aB, .int .i64 aH, .int .i64 aI, .int .i64 aJ, .int .i64 aK, .int .i64 aL, .int .i64 aC, .int .i64 aD, .int .i64 aF, .int .i64 aM, .int .i64 aG, .int .i64 aE] 41 (0, 0))) ∧ Aside0 (Below w.heap.size w wc))
  case first =>
    have H := bG.out; clear bG; replace H := qH H; obtain ⟨aP, A4, H⟩ := H
    try dsimp only at H
    by_cases c5 : aP = true
    · subst c5; replace H := qT H; replace H := qH H; obtain ⟨aQ, A6, H⟩ := H
      try dsimp only at H
      by_cases c7 : aQ = true
      · subst c7; replace H := qT H; replace H := qH H; obtain ⟨aR, A8, H⟩ := H
        try dsimp only at H
        by_cases c9 : aR = true
        · subst c9; replace H := qT H; replace H := qH H; obtain ⟨aS, b3, H⟩ := H
          try dsimp only at H
          by_cases b5 : aS = true
          · subst b5; replace H := qT H; replace H := qH H; obtain ⟨aT, b6, H⟩ := H
            try dsimp only at H
            by_cases b7 : aT = true
            · subst b7; replace H := qT H; replace H := qH H; obtain ⟨aU, bI, H⟩ := H
              try dsimp only at H
              by_cases b8 : aU = true
              · subst b8; replace H := qT H; replace H := qH H; obtain ⟨aV, bP, H⟩ := H
                try dsimp only at H
                by_cases b9 : aV = true
                · subst b9; replace H := qT H; replace H := qH H; obtain ⟨aO, zV, H⟩ := H
                  try dsimp only at H
                  have H' := az H; clear H; obtain ⟨fN, fO, fP, fQ, fR, fS, fT, fU, fV, fW, bZ, c0⟩ := cz12 aA.out; obtain ⟨fX, fY, fZ, g0, g1, g2, g3, g4, g5, g6, c1, c2⟩ := fz12 aA.out; go_wp2_with (first | ((with_reducible refine gate_callee (f := 77) rfl ?_); refine gl (some 5) Try.func77 #[.int .i64 aB, .int .i64 0, .int .i64 999999999] ?_; (with_reducible refine (spec_l1In.calls aB 0 999999999 true _ A4.out).mono ?_); rintro e w' ⟨rfl, ⟨nd, rfl⟩⟩; refine ⟨_, rfl, ?_⟩) | (go_at_call 78; (with_reducible refine (spec_ShapeOk.calls aH aI aJ true _ A6.out).mono ?_); rintro e zX ⟨rfl, hb⟩; replace aA := kBB aA hb; replace HB := bS HB hb; clear hb; obtain ⟨g7, g8, g9, gA, gB, gC, gD, gF, gG, gH, c3, c4⟩ := cz12 aA.out; obtain ⟨gI, gJ, gL, gM, gN, gO, gP, gQ, gR, gS, c6, c8⟩ := fz12 aA.out) | (go_at_call 79; (with_reducible refine (spec_l3Place.calls aK aL true _ A8.out).mono ?_); rintro e zY ⟨rfl, hb⟩; replace aA := kBB aA hb; replace HB := bS HB hb; clear hb; obtain ⟨gT, gU, gV, gW, gX, gY, gZ, hA, hD, hE, cA, cB⟩ := cz12 aA.out; obtain ⟨hF, hG, hH, hI, hJ, hK, hL, hM, hO, hP, cC, cD⟩ := fz12 aA.out) | (go_at_call 80; (with_reducible refine (spec_l6Drive.calls aC aD true _ b3.out).mono ?_); rintro e zZ ⟨rfl, hb⟩; replace aA := kBB aA hb; replace HB := bS HB hb; clear hb; obtain ⟨hQ, hR, hS, hU, hV, hW, hX, hY, hZ, jA, cE, cF⟩ := cz12 aA.out; obtain ⟨jB, jC, jD, jE, jF, jG, jH, jI, jJ, jK, cG, cH⟩ := fz12 aA.out) | (go_at_call 77; (with_reducible refine (spec_l1In.calls aF 0 1000 true _ b6.out).mono ?_); rintro e w' ⟨rfl, ⟨nd, rfl⟩⟩) | (go_at_call 77; (with_reducible refine (spec_l1In.calls aM 0 256 true _ bI.out).mono ?_); rintro e w' ⟨rfl, ⟨nd, rfl⟩⟩) | (go_at_call 77; (with_reducible refine (spec_l1In.calls aG 0 256 true _ bP.out).mono ?_); rintro e w' ⟨rfl, ⟨nd, rfl⟩⟩) | (go_at_call 77; (with_reducible refine (spec_l1In.calls aE 0 8 aO _ zV.out).mono ?_); rintro e w' ⟨rfl, ⟨nd, rfl⟩⟩))
                  go_meet
                  case rel => exact ⟨_, (!aO), qG, H', ⟨qO⟩, ⟨qF aA⟩, ⟨qL HB⟩⟩
                replace b9 := Bool.eq_false_iff.mpr b9; subst b9; replace H := qU H; have H' := az H; clear H; obtain ⟨jL, jM, jN, jO, jP, jQ, jR, jS, jT, jU, cI, cJ⟩ := cz12 aA.out; obtain ⟨jV, jW, jX, jY, jZ, l9, lA, lB, lC, lD, cK, cL⟩ := fz12 aA.out; go_wp2_with (first | ((with_reducible refine gate_callee (f := 77) rfl ?_); refine gl (some 5) Try.func77 #[.int .i64 aB, .int .i64 0, .int .i64 999999999] ?_; (with_reducible refine (spec_l1In.calls aB 0 999999999 true _ A4.out).mono ?_); rintro e w' ⟨rfl, ⟨nd, rfl⟩⟩; refine ⟨_, rfl, ?_⟩) | (go_at_call 78; (with_reducible refine (spec_ShapeOk.calls aH aI aJ true _ A6.out).mono ?_); rintro e A0 ⟨rfl, hb⟩; replace aA := kBB aA hb; replace HB := bS HB hb; clear hb; obtain ⟨lE, lF, lG, lH, lI, lJ, lK, lL, lM, lN, cM, cN⟩ := cz12 aA.out; obtain ⟨lO, lP, lQ, lR, lS, lT, lU, lV, lW, lX, cO, cP⟩ := fz12 aA.out) | (go_at_call 79; (with_reducible refine (spec_l3Place.calls aK aL true _ A8.out).mono ?_); rintro e A1 ⟨rfl, hb⟩; replace aA := kBB aA hb; replace HB := bS HB hb; clear hb; obtain ⟨lY, lZ, m0, m1, m2, m3, m4, m5, m6, m7, cQ, cR⟩ := cz12 aA.out; obtain ⟨m8, m9, mA, mB, mC, mD, mE, mF, mG, mH, cS, cT⟩ := fz12 aA.out) | (go_at_call 80; (with_reducible refine (spec_l6Drive.calls aC aD true _ b3.out).mono ?_); rintro e A2 ⟨rfl, hb⟩; replace aA := kBB aA hb; replace HB := bS HB hb; clear hb; obtain ⟨mI, mJ, mK, mL, mM, mN, mO, mP, mQ, mR, cU, cV⟩ := cz12 aA.out; obtain ⟨mS, mT, mU, mV, mW, mX, mY, mZ, nA, nB, cW, cX⟩ := fz12 aA.out) | (go_at_call 77; (with_reducible refine (spec_l1In.calls aF 0 1000 true _ b6.out).mono ?_); rintro e w' ⟨rfl, ⟨nd, rfl⟩⟩) | (go_at_call 77; (with_reducible refine (spec_l1In.calls aM 0 256 true _ bI.out).mono ?_); rintro e w' ⟨rfl, ⟨nd, rfl⟩⟩) | (go_at_call 77; (with_reducible refine (spec_l1In.calls aG 0 256 false _ bP.out).mono ?_); rintro e w' ⟨rfl, ⟨nd, rfl⟩⟩))
                go_meet
                case rel => exact ⟨_, (true), qG, H', ⟨qO⟩, ⟨qF aA⟩, ⟨qL HB⟩⟩
              replace b8 := Bool.eq_false_iff.mpr b8; subst b8; replace H := qU H; have H' := az H; clear H; obtain ⟨nC, nD, nE, nF, nG, nH, nI, nJ, nK, nL, cY, cZ⟩ := cz12 aA.out; obtain ⟨nM, nN, nO, nP, nQ, nR, nS, nT, nU, nV, dA, dB⟩ := fz12 aA.out; go_wp2_with (first | ((with_reducible refine gate_callee (f := 77) rfl ?_); refine gl (some 5) Try.func77 #[.int .i64 aB, .int .i64 0, .int .i64 999999999] ?_; (with_reducible refine (spec_l1In.calls aB 0 999999999 true _ A4.out).mono ?_); rintro e w' ⟨rfl, ⟨nd, rfl⟩⟩; refine ⟨_, rfl, ?_⟩) | (go_at_call 78; (with_reducible refine (spec_ShapeOk.calls aH aI aJ true _ A6.out).mono ?_); rintro e A3 ⟨rfl, hb⟩; replace aA := kBB aA hb; replace HB := bS HB hb; clear hb; obtain ⟨nW, nX, nY, nZ, o0, o1, o2, o3, o4, o5, dC, dD⟩ := cz12 aA.out; obtain ⟨o6, o7, o8, o9, oA, oB, oC, oD, oE, oF, dE, dF⟩ := fz12 aA.out) | (go_at_call 79; (with_reducible refine (spec_l3Place.calls aK aL true _ A8.out).mono ?_); rintro e A5 ⟨rfl, hb⟩; replace aA := kBB aA hb; replace HB := bS HB hb; clear hb; obtain ⟨oG, oH, oI, oJ, oK, oL, oM, oN, oO, oP, dG, dH⟩ := cz12 aA.out; obtain ⟨oQ, oR, oS, oT, oU, oV, oW, oX, oY, oZ, dI, dJ⟩ := fz12 aA.out) | (go_at_call 80; (with_reducible refine (spec_l6Drive.calls aC aD true _ b3.out).mono ?_); rintro e A7 ⟨rfl, hb⟩; replace aA := kBB aA hb; replace HB := bS HB hb; clear hb; obtain ⟨p0, p1, p2, p3, p4, p5, p6, p7, p8, p9, dK, dL⟩ := cz12 aA.out; obtain ⟨pA, pB, pC, pD, pE, pF, pG, pH, pI, pJ, dM, dN⟩ := fz12 aA.out) | (go_at_call 77; (with_reducible refine (spec_l1In.calls aF 0 1000 true _ b6.out).mono ?_); rintro e w' ⟨rfl, ⟨nd, rfl⟩⟩) | (go_at_call 77; (with_reducible refine (spec_l1In.calls aM 0 256 false _ bI.out).mono ?_); rintro e w' ⟨rfl, ⟨nd, rfl⟩⟩))
              go_meet
              case rel => exact ⟨_, (true), qG, H', ⟨qO⟩, ⟨qF aA⟩, ⟨qL HB⟩⟩
            replace b7 := Bool.eq_false_iff.mpr b7; subst b7; replace H := qU H; have H' := az H; clear H; obtain ⟨pK, pL, pM, pN, pO, pP, pQ, pR, pS, pT, dO, dP⟩ := cz12 aA.out; obtain ⟨pU, pV, pW, pX, pY, pZ, r0, r1, r2, r3, dQ, dR⟩ := fz12 aA.out; go_wp2_with (first | ((with_reducible refine gate_callee (f := 77) rfl ?_); refine gl (some 5) Try.func77 #[.int .i64 aB, .int .i64 0, .int .i64 999999999] ?_; (with_reducible refine (spec_l1In.calls aB 0 999999999 true _ A4.out).mono ?_); rintro e w' ⟨rfl, ⟨nd, rfl⟩⟩; refine ⟨_, rfl, ?_⟩) | (go_at_call 78; (with_reducible refine (spec_ShapeOk.calls aH aI aJ true _ A6.out).mono ?_); rintro e A9 ⟨rfl, hb⟩; replace aA := kBB aA hb; replace HB := bS HB hb; clear hb; obtain ⟨r4, r5, r6, r7, r8, r9, rA, rB, rC, rD, dS, dT⟩ := cz12 aA.out; obtain ⟨rE, rF, rG, rH, rI, rJ, rK, rL, rM, rN, dU, dV⟩ := fz12 aA.out) | (go_at_call 79; (with_reducible refine (spec_l3Place.calls aK aL true _ A8.out).mono ?_); rintro e Aa ⟨rfl, hb⟩; replace aA := kBB aA hb; replace HB := bS HB hb; clear hb; obtain ⟨rO, rP, rQ, rR, rS, rT, rU, rV, rW, rX, dW, dX⟩ := cz12 aA.out; obtain ⟨rY, rZ, sA, sB, sC, sD, sE, sF, sG, sH, dY, dZ⟩ := fz12 aA.out) | (go_at_call 80; (with_reducible refine (spec_l6Drive.calls aC aD true _ b3.out).mono ?_); rintro e Ab ⟨rfl, hb⟩; replace aA := kBB aA hb; replace HB := bS HB hb; clear hb; obtain ⟨sI, sJ, sK, sL, sM, sN, sO, sP, sQ, sR, e0, e1⟩ := cz12 aA.out; obtain ⟨sS, sT, sU, sV, sW, sX, sY, sZ, t0, t1, e2, e3⟩ := fz12 aA.out) | (go_at_call 77; (with_reducible refine (spec_l1In.calls aF 0 1000 false _ b6.out).mono ?_); rintro e w' ⟨rfl, ⟨nd, rfl⟩⟩))
            go_meet
            case rel => exact ⟨_, (true), qG, H', ⟨qO⟩, ⟨qF aA⟩, ⟨qL HB⟩⟩
          replace b5 := Bool.eq_false_iff.mpr b5; subst b5; replace H := qU H; have H' := az H; clear H; obtain ⟨t2, t3, t4, t5, t6, t7, t8, t9, tA, tB, e4, e5⟩ := cz12 aA.out; obtain ⟨tC, tD, tE, tF, tG, tH, tI, tJ, tK, tL, e6, e7⟩ := fz12 aA.out; go_wp2_with (first | ((with_reducible refine gate_callee (f := 77) rfl ?_); refine gl (some 5) Try.func77 #[.int .i64 aB, .int .i64 0, .int .i64 999999999] ?_; (with_reducible refine (spec_l1In.calls aB 0 999999999 true _ A4.out).mono ?_); rintro e w' ⟨rfl, ⟨nd, rfl⟩⟩; refine ⟨_, rfl, ?_⟩) | (go_at_call 78; (with_reducible refine (spec_ShapeOk.calls aH aI aJ true _ A6.out).mono ?_); rintro e Ac ⟨rfl, hb⟩; replace aA := kBB aA hb; replace HB := bS HB hb; clear hb; obtain ⟨tM, tN, tO, tP, tQ, tR, tS, tT, tU, tV, e8, e9⟩ := cz12 aA.out; obtain ⟨tW, tX, tY, tZ, u0, u1, u2, u3, u4, u5, eA, eB⟩ := fz12 aA.out) | (go_at_call 79; (with_reducible refine (spec_l3Place.calls aK aL true _ A8.out).mono ?_); rintro e Ad ⟨rfl, hb⟩; replace aA := kBB aA hb; replace HB := bS HB hb; clear hb; obtain ⟨u6, u7, u9, uA, uB, uC, uD, uE, uF, uG, eC, eD⟩ := cz12 aA.out; obtain ⟨uH, uI, uJ, uK, uL, uM, uN, uO, uP, uQ, eE, eF⟩ := fz12 aA.out) | (go_at_call 80; (with_reducible refine (spec_l6Drive.calls aC aD false _ b3.out).mono ?_); rintro e Ae ⟨rfl, hb⟩; replace aA := kBB aA hb; replace HB := bS HB hb; clear hb))
          go_meet
          case rel => exact ⟨_, (true), qG, H', ⟨qO⟩, ⟨qF aA⟩, ⟨qL HB⟩⟩
        replace c9 := Bool.eq_false_iff.mpr c9; subst c9; replace H := qU H; have H' := az H; clear H; obtain ⟨uR, uS, uT, uU, uV, uW, uX, uY, uZ, v0, eG, eH⟩ := cz12 aA.out; obtain ⟨v1, v2, v3, v4, v5, v6, v7, v8, v9, vA, eI, eJ⟩ := fz12 aA.out; go_wp2_with (first | ((with_reducible refine gate_callee (f := 77) rfl ?_); refine gl (some 5) Try.func77 #[.int .i64 aB, .int .i64 0, .int .i64 999999999] ?_; (with_reducible refine (spec_l1In.calls aB 0 999999999 true _ A4.out).mono ?_); rintro e w' ⟨rfl, ⟨nd, rfl⟩⟩; refine ⟨_, rfl, ?_⟩) | (go_at_call 78; (with_reducible refine (spec_ShapeOk.calls aH aI aJ true _ A6.out).mono ?_); rintro e Af ⟨rfl, hb⟩; replace aA := kBB aA hb; replace HB := bS HB hb; clear hb; obtain ⟨vB, vC, vD, vE, vF, vG, vH, vI, vJ, vK, eK, eL⟩ := cz12 aA.out; obtain ⟨vL, vM, vN, vO, vP, vQ, vR, vS, vT, vU, eM, eN⟩ := fz12 aA.out) | (go_at_call 79; (with_reducible refine (spec_l3Place.calls aK aL false _ A8.out).mono ?_); rintro e Ag ⟨rfl, hb⟩; replace aA := kBB aA hb; replace HB := bS HB hb; clear hb))
        go_meet
        case rel => exact ⟨_, (true), qG, H', ⟨qO⟩, ⟨qF aA⟩, ⟨qL HB⟩⟩
      replace c7 := Bool.eq_false_iff.mpr c7; subst c7; replace H := qU H; have H' := az H; clear H; obtain ⟨vV, vW, vX, vY, vZ, w0, w1, w2, w4, w5, eO, eP⟩ := cz12 aA.out; obtain ⟨w6, w7, w8, w9, wA, wB, wC, wD, wE, wF, eQ, eR⟩ := fz12 aA.out; go_wp2_with (first | ((with_reducible refine gate_callee (f := 77) rfl ?_); refine gl (some 5) Try.func77 #[.int .i64 aB, .int .i64 0, .int .i64 999999999] ?_; (with_reducible refine (spec_l1In.calls aB 0 999999999 true _ A4.out).mono ?_); rintro e w' ⟨rfl, ⟨nd, rfl⟩⟩; refine ⟨_, rfl, ?_⟩) | (go_at_call 78; (with_reducible refine (spec_ShapeOk.calls aH aI aJ false _ A6.out).mono ?_); rintro e Ah ⟨rfl, hb⟩; replace aA := kBB aA hb; replace HB := bS HB hb; clear hb))
      go_meet
      case rel => exact ⟨_, (true), qG, H', ⟨qO⟩, ⟨qF aA⟩, ⟨qL HB⟩⟩
    replace c5 := Bool.eq_false_iff.mpr c5; subst c5; replace H := qU H; have H' := az H; clear H; obtain ⟨wG, wH, wI, wJ, wK, wL, wM, wN, wO, wP, eS, eT⟩ := cz12 aA.out; obtain ⟨wQ, wR, wS, wT, wU, wV, wW, wX, wY, wZ, eU, eV⟩ := fz12 aA.out; go_wp2_with (first | ((with_reducible refine gate_callee (f := 77) rfl ?_); refine gl (some 5) Try.func77 #[.int .i64 aB, .int .i64 0, .int .i64 999999999] ?_; (with_reducible refine (spec_l1In.calls aB 0 999999999 false _ A4.out).mono ?_); rintro e w' ⟨rfl, ⟨nd, rfl⟩⟩; refine ⟨_, rfl, ?_⟩))
    go_meet
    case rel => exact ⟨_, (true), qG, H', ⟨qO⟩, ⟨qF aA⟩, ⟨qL HB⟩⟩
  case rest =>
    clear bG; obtain ⟨kq, aW, rfl, HA, Ai, aA, HB⟩ := hcut
    cases kq with
    | zero => exact absurd HA.out (by simp [spec_BodyOk.j0])
    | succ Aj => ?_
    have H := HA.out; clear HA; simp only [spec_BodyOk.j0] at H; by_cases bA : aW = true
    · subst bA; replace H := qT H; obtain rfl := Option.some.inj H; go_wp2
      go_ret
      exact ⟨qE, qL HB⟩
    replace bA := Bool.eq_false_iff.mpr bA; subst bA; replace H := qU H; by_cases b0 : aF = 0
    · rw [if_pos b0] at H; have bJ : (aF == 0) = true := beq_iff_eq.mpr b0; have bK : (aF != 0) = false := bne_eq_false_iff_eq.mpr b0; clear b0; by_cases aN : (aC == 0 && (aD == 0)) = true
      · rw [if_pos aN] at H; have bL : (aC == 0 && (aD == 0)) = true := aN; (try (have bM : decide (aC = 0 && (aD == 0)) = true := by simpa using aN)); (try (have bN : (aC == 0 && (aD == 0)) = true := by simpa using aN)); clear aN; obtain rfl := Option.some.inj H; obtain ⟨x0, x1, x2, x3, x4, x5, x6, x7, x8, x9, eW, eX⟩ := cz12 aA.out; obtain ⟨xA, xB, xC, xD, xE, xF, xG, xH, xI, xJ, eY, eZ⟩ := fz12 aA.out; go_wp2
        go_ret
        exact ⟨qE, qL HB⟩
      rw [if_neg aN] at H
      have bL : (aC == 0 && (aD == 0)) = false := by simpa using aN
      (try (have bM : decide (aC = 0 && (aD == 0)) = false := by simpa using aN)); (try (have bN : (aC == 0 && (aD == 0)) = false := by simpa using aN)); (try (have zW : ¬ (aC = 0 && (aD == 0)) := by simpa using aN)); clear aN; obtain rfl := Option.some.inj H; obtain ⟨xK, xL, xM, xN, xO, xP, xQ, xR, xS, xT, fA, fB⟩ := cz12 aA.out; obtain ⟨xU, xV, xW, xX, xY, xZ, yA, yB, yC, yD, fC, fD⟩ := fz12 aA.out; go_wp2
      go_ret
      exact ⟨qE, qL HB⟩
    rw [if_neg b0] at H; have bJ : (aF == 0) = false := beq_eq_false_iff_ne.mpr b0; have bK : (aF != 0) = true := bne_iff_ne.mpr b0; by_cases b1 : aE < 8
    · rw [if_pos b1] at H; have bO : decide (aE < 8) = true := decide_eq_true b1; clear b1; obtain rfl := Option.some.inj H; obtain ⟨yE, yF, yG, yH, yI, yJ, yK, yL, yM, yN, fE, fG⟩ := cz12 aA.out; obtain ⟨yO, yP, yQ, yR, yS, yT, yU, yV, yW, yX, fH, fI⟩ := fz12 aA.out; go_wp2
      go_ret
      exact ⟨qE, qL HB⟩
    rw [if_neg b1] at H; have bO : decide (aE < 8) = false := decide_eq_false b1; clear b1; obtain rfl := Option.some.inj H; obtain ⟨yY, yZ, zA, zB, zC, zD, zE, zF, zG, zH, fJ, fK⟩ := cz12 aA.out; obtain ⟨zI, zJ, zK, zL, zM, zN, zO, zP, zQ, zR, fL, fM⟩ := fz12 aA.out; go_wp2
    go_ret
    exact ⟨qE, qL HB⟩
end Go.Proofs.Ytdngjedhbnoaoaa.PBig
