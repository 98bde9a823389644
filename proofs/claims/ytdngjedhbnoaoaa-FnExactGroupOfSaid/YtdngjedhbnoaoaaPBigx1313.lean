/- What these functions compute, each walked once: spec_l6Drive, spec_ShapeOk, spec_l3Place, spec_BodyOk, spec_BodiesOk; for all arguments and worlds, under the conditions that each theorem names. -/
import Derived.Test.YtdngjedhbnoaoaaSq
import Derived.Test.YtdngjedhbnoaoaaPBigx1301
import Derived.Test.YtdngjedhbnoaoaaPBigx1309
namespace Go.Proofs.Ytdngjedhbnoaoaa.PBig
open Go.RowKit Go.Proofs.YtdngjedhbnoaoaaW.PrintWords Go.Proofs.YtdngjedhbnoaoaaW.PrintLast Go.Proofs.YtdngjedhbnoaoaaW.PrintMore
attribute [local go_sem] max2_int min2_int max_two min_two max_three min_three max_four min_four   -- for this text's walks alone
set_option linter.unusedVariables false
set_option linter.unusedSimpArgs false

/-! ### spec_l6Drive: function 80 -/
def spec_l6Drive.f (a0 : Int) (a1 : Int) : Option (Bool) := (spec_l1In.f a0 (-20000000) 20000000).bind fun a4 => (if a4 = true then ((spec_l1In.f a1 (-20000000) 20000000).bind fun a5 => (some a5)) else (some false))
set_option maxHeartbeats 8000000 in
set_option maxRecDepth 100000 in
theorem spec_l6Drive.calls (a0 : Int) (a1 : Int) (r : Bool) (w : World) (h : spec_l6Drive.f a0 a1 = some r) :
    Calls Try.prog 80 #[.agg #[.int .i64 a0, .int .i64 a1]] w fun e w' => e = .returned (.bool r) ∧ Below w.heap.size w w' := by
  have hu33 := Try.underlying33; have HB := az (Below.refl w.heap.size w); have H : ((spec_l1In.f a0 (-20000000) 20000000).bind fun a4 => (if a4 = true then ((spec_l1In.f a1 (-20000000) 20000000).bind fun a5 => (some a5)) else (some false))) = some r := h; clear h; replace H := qH H; obtain ⟨a7, a6, H⟩ := H
  try dsimp only at H
  by_cases a2 : a7 = true; subst a2; replace H := qT H; replace H := qH H; obtain ⟨a8, a9, H⟩ := H
  try dsimp only at H
  obtain rfl := Option.some.inj H; refine ?L1; rotate_left; replace a2 := Bool.eq_false_iff.mpr a2; subst a2; replace H := qU H; obtain rfl := Option.some.inj H; refine ?L2
  rotate_right
  case' L1 | L2 =>
    go_enter Try.func80, Try.ntmps80; go_wp2_with (first | ((with_reducible refine gate_dst (N := 1) rfl ?_); refine bx (N := 1) (cs := #[.int .i64 a0, .int .i64 a1]) (t := 33) ?_; intro aA hg w5 hbox hb; have a3 := az hbox; have aB := az ((gE hg (qL HB) : w.heap.size ≤ aA)); have aG := aB; replace HB := bS HB hb; clear hb hbox hg; obtain ⟨aC, aD⟩ := cz2 a3.out; have aE := blk_frozen a3.out 0; have aF := blk_frozen a3.out 1) | ((with_reducible refine gate_callee (f := 77) rfl ?_); refine gl (some 5) Try.func77 #[.int .i64 a0, .int .i64 (-20000000), .int .i64 20000000] ?_; (with_reducible refine (spec_l1In.calls a0 (-20000000) 20000000 true _ a6.out).mono ?_); rintro e w' ⟨rfl, ⟨nd, rfl⟩⟩; refine ⟨_, rfl, ?_⟩) | (go_at_call 77; (with_reducible refine (spec_l1In.calls a1 (-20000000) 20000000 a8 _ a9.out).mono ?_); rintro e w' ⟨rfl, ⟨nd, rfl⟩⟩) | ((with_reducible refine gate_callee (f := 77) rfl ?_); refine gl (some 5) Try.func77 #[.int .i64 a0, .int .i64 (-20000000), .int .i64 20000000] ?_; (with_reducible refine (spec_l1In.calls a0 (-20000000) 20000000 false _ a6.out).mono ?_); rintro e w' ⟨rfl, ⟨nd, rfl⟩⟩; refine ⟨_, rfl, ?_⟩))
    go_ret
  case L1 =>
    exact ⟨qE, qL HB⟩
  case L2 =>
    exact ⟨qE, qL HB⟩
    

/-! ### spec_ShapeOk: function 78 -/
def spec_ShapeOk.f (a0 : Int) (a1 : Int) (a3 : Int) : Option (Bool) := if a0 = 1 then ((spec_l1In.f a1 1 25600).bind fun a7 => (if a7 = true then (some (a3 == 0)) else (some false))) else (if a0 = 2 then ((spec_l1In.f a1 1 25600).bind fun a8 => (if a8 = true then ((spec_l1In.f a3 1 25600).bind fun a9 => (some a9)) else (some false))) else (some false))
set_option maxHeartbeats 8000000 in
set_option maxRecDepth 100000 in
theorem spec_ShapeOk.calls (a0 : Int) (a1 : Int) (a3 : Int) (r : Bool) (w : World) (h : spec_ShapeOk.f a0 a1 a3 = some r) :
    Calls Try.prog 78 #[.agg #[.int .i64 a0, .int .i64 a1, .int .i64 a3]] w fun e w' => e = .returned (.bool r) ∧ Below w.heap.size w w' := by
  have hu39 := Try.underlying39; have HB := az (Below.refl w.heap.size w); have H : (if a0 = 1 then ((spec_l1In.f a1 1 25600).bind fun a7 => (if a7 = true then (some (a3 == 0)) else (some false))) else (if a0 = 2 then ((spec_l1In.f a1 1 25600).bind fun a8 => (if a8 = true then ((spec_l1In.f a3 1 25600).bind fun a9 => (some a9)) else (some false))) else (some false))) = some r := h; clear h; by_cases a4 : a0 = 1; rw [if_pos a4] at H; have aC : (a0 == 1) = true := beq_iff_eq.mpr a4; have aD : (a0 != 1) = false := bne_eq_false_iff_eq.mpr a4; clear a4; replace H := qH H; obtain ⟨aA, a6, H⟩ := H
  try dsimp only at H
  by_cases a2 : aA = true; subst a2; replace H := qT H; obtain rfl := Option.some.inj H; refine ?L1; rotate_left; replace a2 := Bool.eq_false_iff.mpr a2; subst a2; replace H := qU H; obtain rfl := Option.some.inj H; refine ?L2
  rotate_right
  rotate_left 2
  rw [if_neg a4] at H; have aC : (a0 == 1) = false := beq_eq_false_iff_ne.mpr a4; have aD : (a0 != 1) = true := bne_iff_ne.mpr a4; by_cases a5 : a0 = 2; rw [if_pos a5] at H; have aE : (a0 == 2) = true := beq_iff_eq.mpr a5; have aF : (a0 != 2) = false := bne_eq_false_iff_eq.mpr a5; clear a5; replace H := qH H; obtain ⟨aA, a6, H⟩ := H
  try dsimp only at H
  by_cases a2 : aA = true; subst a2; replace H := qT H; replace H := qH H; obtain ⟨aI, aJ, H⟩ := H
  try dsimp only at H
  obtain rfl := Option.some.inj H; refine ?L3; rotate_left; replace a2 := Bool.eq_false_iff.mpr a2; subst a2; replace H := qU H; obtain rfl := Option.some.inj H; refine ?L4
  rotate_right
  rotate_left 2
  rw [if_neg a5] at H; have aE : (a0 == 2) = false := beq_eq_false_iff_ne.mpr a5; have aF : (a0 != 2) = true := bne_iff_ne.mpr a5; obtain rfl := Option.some.inj H; refine ?L5
  rotate_right 2
  rotate_right 2
  case' L1 | L2 | L3 | L4 | L5 =>
    go_enter Try.func78, Try.ntmps78; go_wp2_with (first | ((with_reducible refine gate_dst (N := 1) rfl ?_); refine bx (N := 1) (cs := #[.int .i64 a0, .int .i64 a1, .int .i64 a3]) (t := 39) ?_; intro aG hg w5 hbox hb; have aB := az hbox; have aH := az ((gE hg (qL HB) : w.heap.size ≤ aG)); have aK := aH; replace HB := bS HB hb; clear hb hbox hg; obtain ⟨aL, aM, aN⟩ := cz3 aB.out; obtain ⟨aO, aP, aQ⟩ := fz3 aB.out) | ((with_reducible refine gate_callee (f := 77) rfl ?_); refine gl (some 9) Try.func77 #[.int .i64 a1, .int .i64 1, .int .i64 25600] ?_; (with_reducible refine (spec_l1In.calls a1 1 25600 true _ a6.out).mono ?_); rintro e w' ⟨rfl, ⟨nd, rfl⟩⟩; refine ⟨_, rfl, ?_⟩) | ((with_reducible refine gate_callee (f := 77) rfl ?_); refine gl (some 9) Try.func77 #[.int .i64 a1, .int .i64 1, .int .i64 25600] ?_; (with_reducible refine (spec_l1In.calls a1 1 25600 false _ a6.out).mono ?_); rintro e w' ⟨rfl, ⟨nd, rfl⟩⟩; refine ⟨_, rfl, ?_⟩) | ((with_reducible refine gate_callee (f := 77) rfl ?_); refine gl (some 19) Try.func77 #[.int .i64 a1, .int .i64 1, .int .i64 25600] ?_; (with_reducible refine (spec_l1In.calls a1 1 25600 true _ a6.out).mono ?_); rintro e w' ⟨rfl, ⟨nd, rfl⟩⟩; refine ⟨_, rfl, ?_⟩) | (go_at_call 77; (with_reducible refine (spec_l1In.calls a3 1 25600 aI _ aJ.out).mono ?_); rintro e w' ⟨rfl, ⟨nd, rfl⟩⟩) | ((with_reducible refine gate_callee (f := 77) rfl ?_); refine gl (some 19) Try.func77 #[.int .i64 a1, .int .i64 1, .int .i64 25600] ?_; (with_reducible refine (spec_l1In.calls a1 1 25600 false _ a6.out).mono ?_); rintro e w' ⟨rfl, ⟨nd, rfl⟩⟩; refine ⟨_, rfl, ?_⟩))
    go_ret
  case' L1 | L2 | L3 | L4 =>
    exact ⟨qE, qL HB⟩
  case L5 =>
    exact ⟨qE, qL HB⟩
    

/-! ### spec_l3Place: function 79 -/
def spec_l3Place.f (a0 : Int) (a1 : Int) : Option (Bool) := (spec_l1In.f a0 (-2560000) 2560000).bind fun a4 => (if a4 = true then ((spec_l1In.f a1 (-2560000) 2560000).bind fun a5 => (some a5)) else (some false))
set_option maxHeartbeats 8000000 in
set_option maxRecDepth 100000 in
theorem spec_l3Place.calls (a0 : Int) (a1 : Int) (r : Bool) (w : World) (h : spec_l3Place.f a0 a1 = some r) :
    Calls Try.prog 79 #[.agg #[.int .i64 a0, .int .i64 a1]] w fun e w' => e = .returned (.bool r) ∧ Below w.heap.size w w' := by
  have hu33 := Try.underlying33; have HB := az (Below.refl w.heap.size w); have H : ((spec_l1In.f a0 (-2560000) 2560000).bind fun a4 => (if a4 = true then ((spec_l1In.f a1 (-2560000) 2560000).bind fun a5 => (some a5)) else (some false))) = some r := h; clear h; replace H := qH H; obtain ⟨a9, a6, H⟩ := H
  try dsimp only at H
  by_cases a2 : a9 = true; subst a2; replace H := qT H; replace H := qH H; obtain ⟨aA, aB, H⟩ := H
  try dsimp only at H
  obtain rfl := Option.some.inj H; refine ?L1; rotate_left; replace a2 := Bool.eq_false_iff.mpr a2; subst a2; replace H := qU H; obtain rfl := Option.some.inj H; refine ?L2
  rotate_right
  case' L1 | L2 =>
    go_enter Try.func79, Try.ntmps79; go_wp2_with (first | ((with_reducible refine gate_dst (N := 1) rfl ?_); refine bx (N := 1) (cs := #[.int .i64 a0, .int .i64 a1]) (t := 33) ?_; intro a7 hg w5 hbox hb; have a3 := az hbox; have a8 := az ((gE hg (qL HB) : w.heap.size ≤ a7)); have aC := a8; replace HB := bS HB hb; clear hb hbox hg; obtain ⟨aD, aE⟩ := cz2 a3.out; have aF := blk_frozen a3.out 0; have aG := blk_frozen a3.out 1) | ((with_reducible refine gate_callee (f := 77) rfl ?_); refine gl (some 5) Try.func77 #[.int .i64 a0, .int .i64 (-2560000), .int .i64 2560000] ?_; (with_reducible refine (spec_l1In.calls a0 (-2560000) 2560000 true _ a6.out).mono ?_); rintro e w' ⟨rfl, ⟨nd, rfl⟩⟩; refine ⟨_, rfl, ?_⟩) | (go_at_call 77; (with_reducible refine (spec_l1In.calls a1 (-2560000) 2560000 aA _ aB.out).mono ?_); rintro e w' ⟨rfl, ⟨nd, rfl⟩⟩) | ((with_reducible refine gate_callee (f := 77) rfl ?_); refine gl (some 5) Try.func77 #[.int .i64 a0, .int .i64 (-2560000), .int .i64 2560000] ?_; (with_reducible refine (spec_l1In.calls a0 (-2560000) 2560000 false _ a6.out).mono ?_); rintro e w' ⟨rfl, ⟨nd, rfl⟩⟩; refine ⟨_, rfl, ?_⟩))
    go_ret
  case L1 =>
    exact ⟨qE, qL HB⟩
  case L2 =>
    exact ⟨qE, qL HB⟩
    

attribute [local go_sem high] eqA33
/-! ### spec_BodyOk: function 54 -/
def spec_BodyOk.j0 : Nat → Bool → Int → Int → Int → Int → Int → Int → Int → Int → Int → Int → Int → Int → Option (Bool)
  | 0, _, _, _, _, _, _, _, _, _, _, _, _, _ => none
  | k + 1, jE, c6, c7, c8, c9, cA, cB, aZ, b0, bB, cC, cD, b1 => if jE = true then (some false) else (if bB = 0 then (if (aZ == 0 && (b0 == 0)) = true then (some (b1 == 0)) else (some false)) else (if b1 < 8 then (some true) else (some (aZ == 0 && (b0 == 0)))))
def spec_BodyOk.f (k : Nat) (aG : Int) (aH : Int) (aI : Int) (aJ : Int) (aK : Int) (aL : Int) (aC : Int) (aD : Int) (aF : Int) (aM : Int) (aE : Int) (aB : Int) : Option (Bool) := (spec_l1In.f aG 0 999999999).bind fun b2 => (if b2 = true then ((spec_ShapeOk.f aH aI aJ).bind fun b3 => (if b3 = true then ((spec_l3Place.f aK aL).bind fun b4 => (if b4 = true then ((spec_l6Drive.f aC aD).bind fun b5 => (if b5 = true then ((spec_l1In.f aF 0 1000).bind fun b6 => (if b6 = true then ((spec_l1In.f aM 0 256).bind fun b7 => (if b7 = true then ((spec_l1In.f aE 0 256).bind fun b8 => (if b8 = true then ((spec_l1In.f aB 0 8).bind fun b9 => (spec_BodyOk.j0 k (!b9) aG aH aI aJ aK aL aC aD aF aM aE aB)) else (spec_BodyOk.j0 k true aG aH aI aJ aK aL aC aD aF aM aE aB))) else (spec_BodyOk.j0 k true aG aH aI aJ aK aL aC aD aF aM aE aB))) else (spec_BodyOk.j0 k true aG aH aI aJ aK aL aC aD aF aM aE aB))) else (spec_BodyOk.j0 k true aG aH aI aJ aK aL aC aD aF aM aE aB))) else (spec_BodyOk.j0 k true aG aH aI aJ aK aL aC aD aF aM aE aB))) else (spec_BodyOk.j0 k true aG aH aI aJ aK aL aC aD aF aM aE aB))) else (spec_BodyOk.j0 k true aG aH aI aJ aK aL aC aD aF aM aE aB))
theorem spec_BodyOk.mono_l : ∀ k, (∀ y0 y1 y2 y3 y4 y5 y6 y7 y8 y9 bQ bR bT, LeO (spec_BodyOk.j0 k y0 y1 y2 y3 y4 y5 y6 y7 y8 y9 bQ bR bT) (spec_BodyOk.j0 (k + 1) y0 y1 y2 y3 y4 y5 y6 y7 y8 y9 bQ bR bT))
  | 0 => fun _ _ _ _ _ _ _ _ _ _ _ _ _ r h => by simp [spec_BodyOk.j0] at h
  | k + 1 => by
    have ih0 := spec_BodyOk.mono_l k
    · intro y0 y1 y2 y3 y4 y5 y6 y7 y8 y9 bQ bR bT
      unfold spec_BodyOk.j0
      repeat' first
      | (with_reducible exact ih0 _ _ _ _ _ _ _ _ _ _ _ _ _)
      | (with_reducible exact LeO.refl _)
      | (with_reducible exact LeO.none _)
      | (with_reducible refine LeO.ite ?_ ?_)
      | (with_reducible refine LeO.bind ?_ (fun _ => ?_))
theorem spec_BodyOk.mono : ∀ a0 a1 a2 a3 a4 a5 a6 a7 a8 a9 bU bV k, LeO (spec_BodyOk.f k a0 a1 a2 a3 a4 a5 a6 a7 a8 a9 bU bV) (spec_BodyOk.f (k + 1) a0 a1 a2 a3 a4 a5 a6 a7 a8 a9 bU bV) := by
  intro a0 a1 a2 a3 a4 a5 a6 a7 a8 a9 bU bV k
  have ih0 := spec_BodyOk.mono_l k
  unfold spec_BodyOk.f
  repeat' first
      | (with_reducible exact ih0 _ _ _ _ _ _ _ _ _ _ _ _ _)
      | (with_reducible exact LeO.refl _)
      | (with_reducible exact LeO.none _)
      | (with_reducible refine LeO.ite ?_ ?_)
      | (with_reducible refine LeO.bind ?_ (fun _ => ?_))
set_option maxHeartbeats 8000000 in
set_option maxRecDepth 100000 in
theorem spec_BodyOk.calls (k : Nat) (aG : Int) (aH : Int) (aI : Int) (aJ : Int) (aK : Int) (aL : Int) (aC : Int) (aD : Int) (aF : Int) (aM : Int) (aE : Int) (aB : Int) (r : Bool) (w : World) (h : spec_BodyOk.f k aG aH aI aJ aK aL aC aD aF aM aE aB = some r) :
    Calls Try.prog 54 #[.agg #[.int .i64 aG, .int .i64 aH, .int .i64 aI, .int .i64 aJ, .int .i64 aK, .int .i64 aL, .int .i64 aC, .int .i64 aD, .int .i64 aF, .int .i64 aM, .int .i64 aE, .int .i64 aB]] w fun e w' => e = .returned (.bool r) ∧ Below w.heap.size w w' := by
  have hu41 := Try.underlying41; have hu39 := Try.underlying39; have hu33 := Try.underlying33; have HB := az (Below.refl w.heap.size w); have H : ((spec_l1In.f aG 0 999999999).bind fun b2 => (if b2 = true then ((spec_ShapeOk.f aH aI aJ).bind fun b3 => (if b3 = true then ((spec_l3Place.f aK aL).bind fun b4 => (if b4 = true then ((spec_l6Drive.f aC aD).bind fun b5 => (if b5 = true then ((spec_l1In.f aF 0 1000).bind fun b6 => (if b6 = true then ((spec_l1In.f aM 0 256).bind fun b7 => (if b7 = true then ((spec_l1In.f aE 0 256).bind fun b8 => (if b8 = true then ((spec_l1In.f aB 0 8).bind fun b9 => (spec_BodyOk.j0 k (!b9) aG aH aI aJ aK aL aC aD aF aM aE aB)) else (spec_BodyOk.j0 k true aG aH aI aJ aK aL aC aD aF aM aE aB))) else (spec_BodyOk.j0 k true aG aH aI aJ aK aL aC aD aF aM aE aB))) else (spec_BodyOk.j0 k true aG aH aI aJ aK aL aC aD aF aM aE aB))) else (spec_BodyOk.j0 k true aG aH aI aJ aK aL aC aD aF aM aE aB))) else (spec_BodyOk.j0 k true aG aH aI aJ aK aL aC aD aF aM aE aB))) else (spec_BodyOk.j0 k true aG aH aI aJ aK aL aC aD aF aM aE aB))) else (spec_BodyOk.j0 k true aG aH aI aJ aK aL aC aD aF aM aE aB))) = some r := h; clear h; have bW := az H; clear H; go_enter Try.func54, Try.ntmps54
  go_upto_region 1 with (first | ((with_reducible refine gate_dst (N := 1) rfl ?_); refine bx (N := 1) (cs := #[.int .i64 aG, .int .i64 aH, .int .i64 aI, .int .i64 aJ, .int .i64 aK, .int .i64 aL, .int .i64 aC, .int .i64 aD, .int .i64 aF, .int .i64 aM, .int .i64 aE, .int .i64 aB]) (t := 41) ?_; intro bA hg w3 hbox hb; have aA := az hbox; have bX := az ((gE hg (qL HB) : w.heap.size ≤ bA)); have jF := bX; replace HB := bS HB hb; clear hb hbox hg))
  (try simp only [Act.put, List.setIfInBounds_toArray, List.set_cons_zero, List.set_cons_succ])
  go_cut [48] (fun jG wc => ∃ (kq : Nat) (aQ : Bool), jG = .bool aQ ∧ Aside0 (spec_BodyOk.j0 kq aQ aG aH aI aJ aK aL aC aD aF aM aE aB = some r) ∧ Aside0 (kq ≤ k) ∧ Aside0 (wc.heap[bA]? = some (.cells #[.int .i64 aG, .int .i64 aH, .int .i64 aI, .int .i64 aJ, .int .i64 aK, .int .i64 aL, .int .i64 aC, .int .i64 aD, .int .i64 aF, .int .i64 aM, .int .i64 aE, .int .i64 aB] 41 (0, 0))) ∧ Aside0 (Below w.heap.size w wc))
  case first =>
    have H := bW.out; clear bW; replace H := qH H; obtain ⟨bY, bC, H⟩ := H
    try dsimp only at H
    by_cases aR : bY = true; subst aR; replace H := qT H; replace H := qH H; obtain ⟨bZ, bD, H⟩ := H
    try dsimp only at H
    by_cases aS : bZ = true; subst aS; replace H := qT H; replace H := qH H; obtain ⟨c0, bE, H⟩ := H
    try dsimp only at H
    by_cases aT : c0 = true; subst aT; replace H := qT H; replace H := qH H; obtain ⟨c1, bF, H⟩ := H
    try dsimp only at H
    by_cases aU : c1 = true; subst aU; replace H := qT H; replace H := qH H; obtain ⟨c2, bG, H⟩ := H
    try dsimp only at H
    by_cases aV : c2 = true; subst aV; replace H := qT H; replace H := qH H; obtain ⟨c3, bH, H⟩ := H
    try dsimp only at H
    by_cases aW : c3 = true; subst aW; replace H := qT H; replace H := qH H; obtain ⟨c4, bI, H⟩ := H
    try dsimp only at H
    by_cases aX : c4 = true; subst aX; replace H := qT H; replace H := qH H; obtain ⟨bJ, c5, H⟩ := H
    try dsimp only at H
    have H' := az H; clear H; refine ?L1; rotate_left; replace aX := Bool.eq_false_iff.mpr aX; subst aX; replace H := qU H; have H' := az H; clear H; refine ?L2
    rotate_right
    rotate_left 2
    replace aW := Bool.eq_false_iff.mpr aW; subst aW; replace H := qU H; have H' := az H; clear H; refine ?L3
    rotate_right 2
    rotate_left 3
    replace aV := Bool.eq_false_iff.mpr aV; subst aV; replace H := qU H; have H' := az H; clear H; refine ?L4
    rotate_right 3
    rotate_left 4
    replace aU := Bool.eq_false_iff.mpr aU; subst aU; replace H := qU H; have H' := az H; clear H; refine ?L5
    rotate_right 4
    rotate_left 5
    replace aT := Bool.eq_false_iff.mpr aT; subst aT; replace H := qU H; have H' := az H; clear H; refine ?L6
    rotate_right 5
    rotate_left 6
    replace aS := Bool.eq_false_iff.mpr aS; subst aS; replace H := qU H; have H' := az H; clear H; refine ?L7
    rotate_right 6
    rotate_left 7
    replace aR := Bool.eq_false_iff.mpr aR; subst aR; replace H := qU H; have H' := az H; clear H; refine ?L8
    rotate_right 7
    case' L1 | L2 | L3 | L4 | L5 | L6 | L7 | L8 =>
      obtain ⟨dG, dH, dI, dJ, dK, dL, dM, dN, dO, dP, cE, cF⟩ := cz12 aA.out; obtain ⟨dQ, dR, dS, dT, dU, dV, dW, dX, dY, dZ, cG, cH⟩ := fz12 aA.out
    case' L1 | L2 | L3 | L4 | L5 | L6 | L7 =>
      go_wp2_with (first | ((with_reducible refine gate_callee (f := 77) rfl ?_); refine gl (some 5) Try.func77 #[.int .i64 aG, .int .i64 0, .int .i64 999999999] ?_; (with_reducible refine (spec_l1In.calls aG 0 999999999 true _ bC.out).mono ?_); rintro e w' ⟨rfl, ⟨nd, rfl⟩⟩; refine ⟨_, rfl, ?_⟩) | (go_at_call 78; (with_reducible refine (spec_ShapeOk.calls aH aI aJ true _ bD.out).mono ?_); rintro e jH ⟨rfl, hb⟩; replace aA := kBB aA hb; replace HB := bS HB hb; clear hb; obtain ⟨e0, e1, e2, e3, e4, e5, e6, e7, e8, e9, cI, cJ⟩ := cz12 aA.out; obtain ⟨eA, eB, eC, eD, eE, eF, eG, eH, eI, eJ, cK, cL⟩ := fz12 aA.out) | (go_at_call 79; (with_reducible refine (spec_l3Place.calls aK aL true _ bE.out).mono ?_); rintro e jI ⟨rfl, hb⟩; replace aA := kBB aA hb; replace HB := bS HB hb; clear hb; obtain ⟨eK, eL, eM, eN, eO, eP, eQ, eR, eS, eT, cM, cN⟩ := cz12 aA.out; obtain ⟨eU, eV, eW, eX, eY, eZ, fA, fB, fC, fD, cO, cP⟩ := fz12 aA.out) | (go_at_call 80; (with_reducible refine (spec_l6Drive.calls aC aD true _ bF.out).mono ?_); rintro e jJ ⟨rfl, hb⟩; replace aA := kBB aA hb; replace HB := bS HB hb; clear hb; obtain ⟨fE, fG, fH, fI, fJ, fK, fL, fM, fN, fO, cQ, cR⟩ := cz12 aA.out; obtain ⟨fP, fQ, fR, fS, fT, fU, fV, fW, fX, fY, cS, cT⟩ := fz12 aA.out) | (go_at_call 77; (with_reducible refine (spec_l1In.calls aF 0 1000 true _ bG.out).mono ?_); rintro e w' ⟨rfl, ⟨nd, rfl⟩⟩) | (go_at_call 77; (with_reducible refine (spec_l1In.calls aM 0 256 true _ bH.out).mono ?_); rintro e w' ⟨rfl, ⟨nd, rfl⟩⟩) | (go_at_call 77; (with_reducible refine (spec_l1In.calls aE 0 256 true _ bI.out).mono ?_); rintro e w' ⟨rfl, ⟨nd, rfl⟩⟩) | (go_at_call 77; (with_reducible refine (spec_l1In.calls aB 0 8 bJ _ c5.out).mono ?_); rintro e w' ⟨rfl, ⟨nd, rfl⟩⟩) | (go_at_call 77; (with_reducible refine (spec_l1In.calls aE 0 256 false _ bI.out).mono ?_); rintro e w' ⟨rfl, ⟨nd, rfl⟩⟩) | (go_at_call 77; (with_reducible refine (spec_l1In.calls aM 0 256 false _ bH.out).mono ?_); rintro e w' ⟨rfl, ⟨nd, rfl⟩⟩) | (go_at_call 77; (with_reducible refine (spec_l1In.calls aF 0 1000 false _ bG.out).mono ?_); rintro e w' ⟨rfl, ⟨nd, rfl⟩⟩) | (go_at_call 80; (with_reducible refine (spec_l6Drive.calls aC aD false _ bF.out).mono ?_); rintro e jK ⟨rfl, hb⟩; replace aA := kBB aA hb; replace HB := bS HB hb; clear hb) | (go_at_call 79; (with_reducible refine (spec_l3Place.calls aK aL false _ bE.out).mono ?_); rintro e jL ⟨rfl, hb⟩; replace aA := kBB aA hb; replace HB := bS HB hb; clear hb) | (go_at_call 78; (with_reducible refine (spec_ShapeOk.calls aH aI aJ false _ bD.out).mono ?_); rintro e jM ⟨rfl, hb⟩; replace aA := kBB aA hb; replace HB := bS HB hb; clear hb))
      go_meet
    case L1 =>
      exact ⟨_, (!bJ), qG, H', ⟨qO⟩, ⟨qF aA⟩, ⟨qL HB⟩⟩
    case' L2 | L3 | L4 | L5 | L6 | L7 =>
      exact ⟨_, (true), qG, H', ⟨qO⟩, ⟨qF aA⟩, ⟨qL HB⟩⟩
    case L8 =>
      go_wp2_with (first | ((with_reducible refine gate_callee (f := 77) rfl ?_); refine gl (some 5) Try.func77 #[.int .i64 aG, .int .i64 0, .int .i64 999999999] ?_; (with_reducible refine (spec_l1In.calls aG 0 999999999 false _ bC.out).mono ?_); rintro e w' ⟨rfl, ⟨nd, rfl⟩⟩; refine ⟨_, rfl, ?_⟩))
      go_meet
      exact ⟨_, (true), qG, H', ⟨qO⟩, ⟨qF aA⟩, ⟨qL HB⟩⟩
  case rest =>
    clear bW; obtain ⟨kq, aQ, rfl, HA, jN, aA, HB⟩ := hcut
    cases kq with
    | zero => exact absurd HA.out (by simp [spec_BodyOk.j0])
    | succ jO => ?_
    have H := HA.out; clear HA; simp only [spec_BodyOk.j0] at H; by_cases aY : aQ = true; subst aY; replace H := qT H; obtain rfl := Option.some.inj H; refine ?L9; rotate_left; replace aY := Bool.eq_false_iff.mpr aY; subst aY; replace H := qU H; by_cases aO : aF = 0; rw [if_pos aO] at H; have bK : (aF == 0) = true := beq_iff_eq.mpr aO; have bL : (aF != 0) = false := bne_eq_false_iff_eq.mpr aO; clear aO; by_cases aN : (aC == 0 && (aD == 0)) = true; rw [if_pos aN] at H; have bM : (aC == 0 && (aD == 0)) = true := aN; refine ?L10; rotate_left; rw [if_neg aN] at H
    have bM : (aC == 0 && (aD == 0)) = false := by simpa using aN
    refine ?L11
    rotate_right
    rotate_left 2
    rw [if_neg aO] at H; have bK : (aF == 0) = false := beq_eq_false_iff_ne.mpr aO; have bL : (aF != 0) = true := bne_iff_ne.mpr aO; by_cases aP : aB < 8; rw [if_pos aP] at H; have bN : decide (aB < 8) = true := decide_eq_true aP; clear aP; obtain rfl := Option.some.inj H; refine ?L12; rotate_left; rw [if_neg aP] at H; have bN : decide (aB < 8) = false := decide_eq_false aP; clear aP; obtain rfl := Option.some.inj H; refine ?L13
    rotate_right
    rotate_right 2
    rotate_right
    case L9 =>
      go_wp2
      go_ret
      exact ⟨qE, qL HB⟩
    case L10 =>
      (try (have bO : decide (aC = 0 && (aD == 0)) = true := by simpa using aN)); (try (have bP : (aC == 0 && (aD == 0)) = true := by simpa using aN)); clear aN; obtain rfl := Option.some.inj H; obtain ⟨fZ, g0, g1, g2, g3, g4, g5, g6, g7, g8, cU, cV⟩ := cz12 aA.out; obtain ⟨g9, gA, gB, gC, gD, gF, gG, gH, gI, gJ, cW, cX⟩ := fz12 aA.out; go_wp2
      go_ret
      exact ⟨qE, qL HB⟩
    case L11 =>
      (try (have bO : decide (aC = 0 && (aD == 0)) = false := by simpa using aN)); (try (have bP : (aC == 0 && (aD == 0)) = false := by simpa using aN)); (try (have gL : ¬ (aC = 0 && (aD == 0)) := by simpa using aN)); clear aN; obtain rfl := Option.some.inj H; obtain ⟨gM, gN, gO, gP, gQ, gR, gS, gT, gU, gV, cY, cZ⟩ := cz12 aA.out; obtain ⟨gW, gX, gY, gZ, hA, hD, hE, hF, hG, hH, dA, dB⟩ := fz12 aA.out; go_wp2
      go_ret
      exact ⟨qE, qL HB⟩
    case' L12 | L13 =>
      obtain ⟨hI, hJ, hK, hL, hM, hO, hP, hQ, hR, hS, dC, dD⟩ := cz12 aA.out; obtain ⟨hU, hV, hW, hX, hY, hZ, jA, jB, jC, jD, dE, dF⟩ := fz12 aA.out; go_wp2
      go_ret
    case L12 =>
      exact ⟨qE, qL HB⟩
    case L13 =>
      exact ⟨qE, qL HB⟩
      

/-! ### spec_BodiesOk: function 17 -/
def spec_BodiesOk.l0 : Nat → List (S41) → Int → Option (Bool)
  | 0, _, _ => none
  | k + 1, x0, x3 => if x3 < (x0.length : Int) then (if 0 ≤ x3 then ((spec_BodyOk.f k ((rd_T41 x0 x3).f0) ((rd_T41 x0 x3).f1.f0) ((rd_T41 x0 x3).f1.f1) ((rd_T41 x0 x3).f1.f2) ((rd_T41 x0 x3).f2.f0) ((rd_T41 x0 x3).f2.f1) ((rd_T41 x0 x3).f3.f0) ((rd_T41 x0 x3).f3.f1) ((rd_T41 x0 x3).f4) ((rd_T41 x0 x3).f5) ((rd_T41 x0 x3).f6) ((rd_T41 x0 x3).f7)).bind fun cQ => (if cQ = true then (if x3 > 0 then (if 0 ≤ (wrap64 (x3 - 1)) then (if (wrap64 (x3 - 1)) < (x0.length : Int) then (if ((rd_T41 x0 (wrap64 (x3 - 1))).f0) ≥ ((rd_T41 x0 x3).f0) then (some false) else (spec_BodiesOk.l0 k x0 (wrap64 (x3 + 1)))) else (none)) else (none)) else (spec_BodiesOk.l0 k x0 (wrap64 (x3 + 1)))) else (some false))) else (none)) else (some (decide ((x0.length : Int) ≤ 12)))
def spec_BodiesOk.f (k : Nat) (l0 : List (S41)) : Option (Bool) := spec_BodiesOk.l0 k l0 0
theorem spec_BodiesOk.mono_l : ∀ k, (∀ y0 y1, LeO (spec_BodiesOk.l0 k y0 y1) (spec_BodiesOk.l0 (k + 1) y0 y1))
  | 0 => fun _ _ r h => by simp [spec_BodiesOk.l0] at h
  | k + 1 => by
    have ih0 := spec_BodiesOk.mono_l k
    · intro y0 y1
      unfold spec_BodiesOk.l0
      repeat' first
      | (with_reducible exact ih0 _ _)
      | (with_reducible exact spec_BodyOk.mono _ _ _ _ _ _ _ _ _ _ _ _ _)
      | (with_reducible exact LeO.refl _)
      | (with_reducible exact LeO.none _)
      | (with_reducible refine LeO.ite ?_ ?_)
      | (with_reducible refine LeO.bind ?_ (fun _ => ?_))
theorem spec_BodiesOk.mono : ∀ a0 k, LeO (spec_BodiesOk.f k a0) (spec_BodiesOk.f (k + 1) a0) := by
  intro a0 k
  have ih0 := spec_BodiesOk.mono_l k
  unfold spec_BodiesOk.f
  repeat' first
      | (with_reducible exact ih0 _ _)
      | (with_reducible exact spec_BodyOk.mono _ _ _ _ _ _ _ _ _ _ _ _ _)
      | (with_reducible exact LeO.refl _)
      | (with_reducible exact LeO.none _)
      | (with_reducible refine LeO.ite ?_ ?_)
      | (with_reducible refine LeO.bind ?_ (fun _ => ?_))
def spec_BodiesOk.T4 : Bool × List (List Nat × List Nat) := (true, [([], []), ([], []), ([0, 1], [0, 1]), ([2], [2]), ([3], [3]), ([4], [4]), ([5, 4], [5]), ([6], [6]), ([7, 6], [6, 7]), ([8, 6, 6], [6, 8]), ([9], [9]), ([9], [9]), ([11, 9], [9, 11]), ([10, 12, 9], [9, 10, 12]), ([13, 9], [9, 13]), ([14, 9], [9, 14]), ([9], [9]), ([9], [9]), ([16, 17, 9], [9, 16, 17]), ([18, 9], [9, 18]), ([19, 9], [9, 19]), ([15, 20, 9], [9, 15, 20]), ([9, 21, 6], [6, 9, 21]), ([6, 22], [6, 22])])
def spec_BodiesOk.B4 : List Nat := [0, 0, 3, 7, 15, 31, 63, 127, 255, 511, 1023, 1023, 3071, 8191, 16383, 32767, 1023, 1023, 197631, 459775, 984063, 2097151, 4194303, 8388607]
theorem spec_BodiesOk.tab4 : rtab .any (opsOf Try.f17 4) = spec_BodiesOk.T4 := by kernel_rfl
theorem spec_BodiesOk.bits4 : waitsOk spec_BodiesOk.T4.2 spec_BodiesOk.B4 = true := by kernel_rfl
set_option maxHeartbeats 8000000 in
set_option maxRecDepth 100000 in
theorem spec_BodiesOk.calls (k : Nat) (A0 : Option Addr) (c0 : Nat) (l0 : List (S41)) (r : Bool) (w : World) (hr0 : Kd.C k41 w A0 l0.length l0) (hc0 : l0.length ≤ c0) (h : spec_BodiesOk.f k l0 = some r) :
    Calls Try.prog 17 #[.slice A0 l0.length c0] w fun e w' => e = .returned (.bool r) ∧ Below w.heap.size w w' := by
  have hu41 := Try.underlying41; have HR0 := az hr0; have cY := az hc0; clear hr0 hc0; have HB := az (Below.refl w.heap.size w); have H : (spec_BodiesOk.l0 k l0 0) = some r := h; clear h; have H' := az H; clear H; go_enter Try.func17, Try.ntmps17; go_wp2
  go_loopg [3] k (fun kq v3 w' => ∃ (a1 : Int), v3 = .int .i64 a1 ∧ Aside0 (spec_BodiesOk.l0 kq l0 a1 = some r) ∧ Aside0 (kq ≤ k) ∧ Aside0 (Below w.heap.size w w'))
  case atStart => exact ⟨(0), qG, H', ⟨Nat.le_refl _⟩, ⟨qL HB⟩⟩
  case round =>
    clear H'
    try clear c1
    obtain ⟨a1, rfl, HA, cH, HB⟩ := hrel
    cases gk with
    | zero => exact absurd HA.out (by simp [spec_BodiesOk.l0])
    | succ k1 => ?_
    have H := HA.out; clear HA; simp only [spec_BodiesOk.l0] at H; by_cases bF : a1 < (l0.length : Int); rw [if_pos bF] at H; have cL : decide (a1 < (l0.length : Int)) = true := decide_eq_true bF; clear bF; replace H := qif H; obtain ⟨cI, H⟩ := H; have cV : decide (0 ≤ a1) = true := decide_eq_true cI; clear cI; replace H := qH H; obtain ⟨cR, bM, H⟩ := H
    try dsimp only at H
    by_cases bN : cR = true; subst bN; replace H := qT H; by_cases bG : a1 > 0; rw [if_pos bG] at H; have cM : decide (0 < a1) = true := decide_eq_true bG; clear bG; obtain ⟨ji7, hji7⟩ : ∃ j_ : Int, (wrap64 (a1 - 1)) = j_ := ⟨_, rfl⟩
    replace H : (if 0 ≤ (ji7) then (if (ji7) < (l0.length : Int) then (if ((rd_T41 l0 (ji7)).f0) ≥ ((rd_T41 l0 a1).f0) then (some false) else (spec_BodiesOk.l0 k1 l0 (wrap64 (a1 + 1)))) else (none)) else (none)) = some r := by first | (rw [hji7] at H; exact H) | (simp only [hji7] at H ⊢; exact H)
    (try rw [hji7] at bM); have hji7w : (IntKind.i64.wrap (a1 - 1)) = ji7 := (i64_w _).trans hji7; replace H := qif H; obtain ⟨cJ, H⟩ := H; have cW : decide (0 ≤ (ji7)) = true := decide_eq_true cJ; clear cJ; replace H := qif H; obtain ⟨cK, H⟩ := H; have cX : decide ((ji7) < (l0.length : Int)) = true := decide_eq_true cK; clear cK; by_cases bH : ((rd_T41 l0 (ji7)).f0) ≥ ((rd_T41 l0 a1).f0); rw [if_pos bH] at H; have cN : decide (((rd_T41 l0 a1).f0) ≤ ((rd_T41 l0 (ji7)).f0)) = true := decide_eq_true bH; clear bH; obtain rfl := Option.some.inj H; refine ?L1; rotate_left; rw [if_neg bH] at H; have cN : decide (((rd_T41 l0 a1).f0) ≤ ((rd_T41 l0 (ji7)).f0)) = false := decide_eq_false bH; clear bH; have H' := az H; clear H; refine ?L2
    rotate_right
    rotate_left 2
    rw [if_neg bG] at H; have cM : decide (0 < a1) = false := decide_eq_false bG; clear bG; have H' := az H; clear H; refine ?L3
    rotate_right 2
    rotate_left 3
    replace bN := Bool.eq_false_iff.mpr bN; subst bN; replace H := qU H; obtain rfl := Option.some.inj H; refine ?L4
    rotate_right 3
    rotate_left 4
    rw [if_neg bF] at H; have cL : decide (a1 < (l0.length : Int)) = false := decide_eq_false bF; clear bF; obtain rfl := Option.some.inj H; refine ?L5
    rotate_right 4
    case' L1 | L2 | L3 | L4 =>
      try go_wp2
      replace HB := az (below_drew1 HB.out); have cB : 0 ≤ (a1 : Int) := qD; have cC : a1 < (l0.length : Int) := qD; obtain ⟨a2, cS, a7, a8, a9, aA, aB, aC, aD, aE, aF, aG, a3, a4⟩ := at_T41 HR0.out a1 cB cC; have a5 := a4; have a6 := a3; have aH := aG; have aI := aF; have aJ := aE; have aK := aD; have aL := aC; have aM := aB; have aN := aA; have aO := a9; have aP := a8; have aQ := a7; cases cS; obtain ⟨a7, a8, a9, aA, aB, aC, aD, aE, aF, aG, a3, a4⟩ := hB12 HB a7 a8 a9 aA aB aC aD aE aF aG a3 a4; replace cB := eq_true cB; replace cC := eq_true cC
    case' L1 | L2 =>
      have cD : 0 ≤ ((ji7) : Int) := qD; have cE : (ji7) < (l0.length : Int) := qD; obtain ⟨cO, cT, aV, aW, aX, aY, aZ, b0, b1, b2, b3, b4, aR, aS⟩ := at_T41 HR0.out (ji7) cD cE; have bI := aS; have bJ := aR; have bO := b4; have bP := b3; have bQ := b2; have bR := b1; have bT := b0; have bU := aZ; have bV := aY; have bW := aX; have bX := aW; have bY := aV; obtain rfl : a2 = cO := (by injection cT); obtain ⟨aV, aW, aX, aY, aZ, b0, b1, b2, b3, b4, aR, aS⟩ := hB12 HB aV aW aX aY aZ b0 b1 b2 b3 b4 aR aS; replace cD := eq_true cD; replace cE := eq_true cE; have cF : 0 ≤ (a1 : Int) := qD; have cG : a1 < (l0.length : Int) := qD; obtain ⟨cP, cU, b5, b6, b7, b8, b9, bA, bB, bC, bD, bE, aT, aU⟩ := at_T41 HR0.out a1 cF cG; have bK := aU; have bL := aT; have bZ := bE; have c2 := bD; have c3 := bC; have c4 := bB; have c5 := bA; have c6 := b9; have c7 := b8; have c8 := b7; have c9 := b6; have cA := b5; obtain rfl : a2 = cP := (by injection cU); obtain ⟨b5, b6, b7, b8, b9, bA, bB, bC, bD, bE, aT, aU⟩ := hB12 HB b5 b6 b7 b8 b9 bA bB bC bD bE aT aU; replace cF := eq_true cF; replace cG := eq_true cG; refine start_ (n := 24) (S := fun w' => w'.cell? (a2.add ((a1).toNat * 12)) = some (.int .i64 ((rd_T41 l0 a1).f0)) ∧ w'.cell? ⟨(a2.add ((a1).toNat * 12)).block, (a2.add ((a1).toNat * 12)).off + 1, none⟩ = some (.int .i64 ((rd_T41 l0 a1).f1.f0)) ∧ w'.cell? ⟨(a2.add ((a1).toNat * 12)).block, (a2.add ((a1).toNat * 12)).off + 2, none⟩ = some (.int .i64 ((rd_T41 l0 a1).f1.f1)) ∧ w'.cell? ⟨(a2.add ((a1).toNat * 12)).block, (a2.add ((a1).toNat * 12)).off + 3, none⟩ = some (.int .i64 ((rd_T41 l0 a1).f1.f2)) ∧ w'.cell? ⟨(a2.add ((a1).toNat * 12)).block, (a2.add ((a1).toNat * 12)).off + 4, none⟩ = some (.int .i64 ((rd_T41 l0 a1).f2.f0)) ∧ w'.cell? ⟨(a2.add ((a1).toNat * 12)).block, (a2.add ((a1).toNat * 12)).off + 5, none⟩ = some (.int .i64 ((rd_T41 l0 a1).f2.f1)) ∧ w'.cell? ⟨(a2.add ((a1).toNat * 12)).block, (a2.add ((a1).toNat * 12)).off + 6, none⟩ = some (.int .i64 ((rd_T41 l0 a1).f3.f0)) ∧ w'.cell? ⟨(a2.add ((a1).toNat * 12)).block, (a2.add ((a1).toNat * 12)).off + 7, none⟩ = some (.int .i64 ((rd_T41 l0 a1).f3.f1)) ∧ w'.cell? ⟨(a2.add ((a1).toNat * 12)).block, (a2.add ((a1).toNat * 12)).off + 8, none⟩ = some (.int .i64 ((rd_T41 l0 a1).f4)) ∧ w'.cell? ⟨(a2.add ((a1).toNat * 12)).block, (a2.add ((a1).toNat * 12)).off + 9, none⟩ = some (.int .i64 ((rd_T41 l0 a1).f5)) ∧ w'.cell? ⟨(a2.add ((a1).toNat * 12)).block, (a2.add ((a1).toNat * 12)).off + 10, none⟩ = some (.int .i64 ((rd_T41 l0 a1).f6)) ∧ w'.cell? ⟨(a2.add ((a1).toNat * 12)).block, (a2.add ((a1).toNat * 12)).off + 11, none⟩ = some (.int .i64 ((rd_T41 l0 a1).f7)) ∧ w'.cell? (a2.add (((ji7)).toNat * 12)) = some (.int .i64 ((rd_T41 l0 (ji7)).f0)) ∧ w'.cell? ⟨(a2.add (((ji7)).toNat * 12)).block, (a2.add (((ji7)).toNat * 12)).off + 1, none⟩ = some (.int .i64 ((rd_T41 l0 (ji7)).f1.f0)) ∧ w'.cell? ⟨(a2.add (((ji7)).toNat * 12)).block, (a2.add (((ji7)).toNat * 12)).off + 2, none⟩ = some (.int .i64 ((rd_T41 l0 (ji7)).f1.f1)) ∧ w'.cell? ⟨(a2.add (((ji7)).toNat * 12)).block, (a2.add (((ji7)).toNat * 12)).off + 3, none⟩ = some (.int .i64 ((rd_T41 l0 (ji7)).f1.f2)) ∧ w'.cell? ⟨(a2.add (((ji7)).toNat * 12)).block, (a2.add (((ji7)).toNat * 12)).off + 4, none⟩ = some (.int .i64 ((rd_T41 l0 (ji7)).f2.f0)) ∧ w'.cell? ⟨(a2.add (((ji7)).toNat * 12)).block, (a2.add (((ji7)).toNat * 12)).off + 5, none⟩ = some (.int .i64 ((rd_T41 l0 (ji7)).f2.f1)) ∧ w'.cell? ⟨(a2.add (((ji7)).toNat * 12)).block, (a2.add (((ji7)).toNat * 12)).off + 6, none⟩ = some (.int .i64 ((rd_T41 l0 (ji7)).f3.f0)) ∧ w'.cell? ⟨(a2.add (((ji7)).toNat * 12)).block, (a2.add (((ji7)).toNat * 12)).off + 7, none⟩ = some (.int .i64 ((rd_T41 l0 (ji7)).f3.f1)) ∧ w'.cell? ⟨(a2.add (((ji7)).toNat * 12)).block, (a2.add (((ji7)).toNat * 12)).off + 8, none⟩ = some (.int .i64 ((rd_T41 l0 (ji7)).f4)) ∧ w'.cell? ⟨(a2.add (((ji7)).toNat * 12)).block, (a2.add (((ji7)).toNat * 12)).off + 9, none⟩ = some (.int .i64 ((rd_T41 l0 (ji7)).f5)) ∧ w'.cell? ⟨(a2.add (((ji7)).toNat * 12)).block, (a2.add (((ji7)).toNat * 12)).off + 10, none⟩ = some (.int .i64 ((rd_T41 l0 (ji7)).f6)) ∧ w'.cell? ⟨(a2.add (((ji7)).toNat * 12)).block, (a2.add (((ji7)).toNat * 12)).off + 11, none⟩ = some (.int .i64 ((rd_T41 l0 (ji7)).f7)) ∧ w'.cell? (a2.add ((a1).toNat * 12)) = some (.int .i64 ((rd_T41 l0 a1).f0)) ∧ w'.cell? ⟨(a2.add ((a1).toNat * 12)).block, (a2.add ((a1).toNat * 12)).off + 1, none⟩ = some (.int .i64 ((rd_T41 l0 a1).f1.f0)) ∧ w'.cell? ⟨(a2.add ((a1).toNat * 12)).block, (a2.add ((a1).toNat * 12)).off + 2, none⟩ = some (.int .i64 ((rd_T41 l0 a1).f1.f1)) ∧ w'.cell? ⟨(a2.add ((a1).toNat * 12)).block, (a2.add ((a1).toNat * 12)).off + 3, none⟩ = some (.int .i64 ((rd_T41 l0 a1).f1.f2)) ∧ w'.cell? ⟨(a2.add ((a1).toNat * 12)).block, (a2.add ((a1).toNat * 12)).off + 4, none⟩ = some (.int .i64 ((rd_T41 l0 a1).f2.f0)) ∧ w'.cell? ⟨(a2.add ((a1).toNat * 12)).block, (a2.add ((a1).toNat * 12)).off + 5, none⟩ = some (.int .i64 ((rd_T41 l0 a1).f2.f1)) ∧ w'.cell? ⟨(a2.add ((a1).toNat * 12)).block, (a2.add ((a1).toNat * 12)).off + 6, none⟩ = some (.int .i64 ((rd_T41 l0 a1).f3.f0)) ∧ w'.cell? ⟨(a2.add ((a1).toNat * 12)).block, (a2.add ((a1).toNat * 12)).off + 7, none⟩ = some (.int .i64 ((rd_T41 l0 a1).f3.f1)) ∧ w'.cell? ⟨(a2.add ((a1).toNat * 12)).block, (a2.add ((a1).toNat * 12)).off + 8, none⟩ = some (.int .i64 ((rd_T41 l0 a1).f4)) ∧ w'.cell? ⟨(a2.add ((a1).toNat * 12)).block, (a2.add ((a1).toNat * 12)).off + 9, none⟩ = some (.int .i64 ((rd_T41 l0 a1).f5)) ∧ w'.cell? ⟨(a2.add ((a1).toNat * 12)).block, (a2.add ((a1).toNat * 12)).off + 10, none⟩ = some (.int .i64 ((rd_T41 l0 a1).f6)) ∧ w'.cell? ⟨(a2.add ((a1).toNat * 12)).block, (a2.add ((a1).toNat * 12)).off + 11, none⟩ = some (.int .i64 ((rd_T41 l0 a1).f7))) (ds := []) #[false, false, false, false, false, false, false, false, false, false, false, false, false, false, false, false, false, false, false, false, false, false, false, false] (by kernel_rfl) rfl rfl ⟨(hB HB aQ), (hB HB aP), (hB HB aO), (hB HB aN), (hB HB aM), (hB HB aL), (hB HB aK), (hB HB aJ), (hB HB aI), (hB HB aH), (hB HB a6), (hB HB a5), (hB HB bY), (hB HB bX), (hB HB bW), (hB HB bV), (hB HB bU), (hB HB bT), (hB HB bR), (hB HB bQ), (hB HB bP), (hB HB bO), (hB HB bJ), (hB HB bI), (hB HB cA), (hB HB c9), (hB HB c8), (hB HB c7), (hB HB c6), (hB HB c5), (hB HB c4), (hB HB c3), (hB HB c2), (hB HB bZ), (hB HB bL), (hB HB bK)⟩ (fun hHeld => ?_); refine with_tabW spec_BodiesOk.tab4 spec_BodiesOk.bits4 (fun HT_ HW_ => ?_)
      generalize wr.drew = cZ at HB a7 a8 a3 a4 a9 aA aB aC aD aE aF aG aV aW aR aS aX aY aZ b0 b1 b2 b3 b4 b5 b6 aT aU b7 b8 b9 bA bB bC bD bE hHeld ⊢; refine pu 0 (some 10) (fl 24 1) HT_ ?_; refine pu 1 (some 11) (fl 24 3) HT_ ?_; refine pu 2 (some 12) (fl 24 7) HT_ ?_; refine tk36 3 (some 13) (fl 24 15) HT_ HW_ hHeld ?_; refine on 4 (some 14) (fl 24 31) HT_ (fun K hK => ?_); refine go1 Try.func54 #[.agg #[.int .i64 ((rd_T41 l0 a1).f0), .int .i64 ((rd_T41 l0 a1).f1.f0), .int .i64 ((rd_T41 l0 a1).f1.f1), .int .i64 ((rd_T41 l0 a1).f1.f2), .int .i64 ((rd_T41 l0 a1).f2.f0), .int .i64 ((rd_T41 l0 a1).f2.f1), .int .i64 ((rd_T41 l0 a1).f3.f0), .int .i64 ((rd_T41 l0 a1).f3.f1), .int .i64 ((rd_T41 l0 a1).f4), .int .i64 ((rd_T41 l0 a1).f5), .int .i64 ((rd_T41 l0 a1).f6), .int .i64 ((rd_T41 l0 a1).f7)]] ?_
      with_reducible refine (spec_BodyOk.calls k1 ((rd_T41 l0 a1).f0) ((rd_T41 l0 a1).f1.f0) ((rd_T41 l0 a1).f1.f1) ((rd_T41 l0 a1).f1.f2) ((rd_T41 l0 a1).f2.f0) ((rd_T41 l0 a1).f2.f1) ((rd_T41 l0 a1).f3.f0) ((rd_T41 l0 a1).f3.f1) ((rd_T41 l0 a1).f4) ((rd_T41 l0 a1).f5) ((rd_T41 l0 a1).f6) ((rd_T41 l0 a1).f7) true _ bM.out).mono ?_
      rintro e dA ⟨rfl, hb⟩; refine ⟨_, rfl, ?_⟩; replace HB := bS HB hb; clear hb; refine hK.out _ _ ⟨(hB HB aQ), (hB HB aP), (hB HB aO), (hB HB aN), (hB HB aM), (hB HB aL), (hB HB aK), (hB HB aJ), (hB HB aI), (hB HB aH), (hB HB a6), (hB HB a5), (hB HB bY), (hB HB bX), (hB HB bW), (hB HB bV), (hB HB bU), (hB HB bT), (hB HB bR), (hB HB bQ), (hB HB bP), (hB HB bO), (hB HB bJ), (hB HB bI), (hB HB cA), (hB HB c9), (hB HB c8), (hB HB c7), (hB HB c6), (hB HB c5), (hB HB c4), (hB HB c3), (hB HB c2), (hB HB bZ), (hB HB bL), (hB HB bK)⟩ (fun hHeld => ?_); clear hK K; refine nm (some 14) ?_; refine pu 5 (some 15) (fl 24 63) HT_ ?_; refine pu 6 (some 16) (fl 24 127) HT_ ?_; refine pu 7 (some 17) (fl 24 255) HT_ ?_; refine pu 8 (some 18) (fl 24 511) HT_ ?_; refine pu 9 (some 19) (fl 24 1023) HT_ ?_; refine pu 10 (some 20) (fl 24 2047) HT_ ?_; refine pu 11 (some 21) (fl 24 4095) HT_ ?_; refine pu 12 (some 22) (fl 24 8191) HT_ ?_; refine pu 13 (some 23) (fl 24 16383) HT_ ?_; refine pu 14 (some 24) (fl 24 32767) HT_ ?_; refine pu 16 (some 26) (fl 24 98303) HT_ ?_; refine pu 17 (some 27) (fl 24 229375) HT_ ?_; refine pu 18 (some 28) (fl 24 491519) HT_ ?_; refine pu 19 (some 29) (fl 24 1015807) HT_ ?_; refine tk36 15 (some 25) (fl 24 1048575) HT_ HW_ hHeld ?_; refine tk36 20 (some 30) (fl 24 2097151) HT_ HW_ hHeld ?_; refine pu 21 (some 31) (fl 24 4194303) HT_ ?_; refine pu 22 (some 32) (fl 24 8388607) HT_ ?_; refine pu 23 (some 33) (fl 24 16777215) HT_ ?_; refine done_ (done_of HT_.out (by kernel_rfl)) ?_
      try go_wp2
    case L1 =>
      go_ret
      exact ⟨by first | rfl | (simp [errW_none, errW_some] <;> rfl) | (simp only [← hji7]; first | rfl | (simp [errW_none, errW_some] <;> rfl)) | (simp [*, errW_none, errW_some] <;> rfl), qL HB⟩
    case L2 =>
      go_roundg k1
      case measure => have := cH.out; omega
      exact ⟨(wrap64 (a1 + 1)), qG, H', ⟨by have := cH.out; omega⟩, ⟨qL HB⟩⟩
    case' L3 | L4 =>
      refine start_ (n := 24) (S := fun w' => w'.cell? (a2.add ((a1).toNat * 12)) = some (.int .i64 ((rd_T41 l0 a1).f0)) ∧ w'.cell? ⟨(a2.add ((a1).toNat * 12)).block, (a2.add ((a1).toNat * 12)).off + 1, none⟩ = some (.int .i64 ((rd_T41 l0 a1).f1.f0)) ∧ w'.cell? ⟨(a2.add ((a1).toNat * 12)).block, (a2.add ((a1).toNat * 12)).off + 2, none⟩ = some (.int .i64 ((rd_T41 l0 a1).f1.f1)) ∧ w'.cell? ⟨(a2.add ((a1).toNat * 12)).block, (a2.add ((a1).toNat * 12)).off + 3, none⟩ = some (.int .i64 ((rd_T41 l0 a1).f1.f2)) ∧ w'.cell? ⟨(a2.add ((a1).toNat * 12)).block, (a2.add ((a1).toNat * 12)).off + 4, none⟩ = some (.int .i64 ((rd_T41 l0 a1).f2.f0)) ∧ w'.cell? ⟨(a2.add ((a1).toNat * 12)).block, (a2.add ((a1).toNat * 12)).off + 5, none⟩ = some (.int .i64 ((rd_T41 l0 a1).f2.f1)) ∧ w'.cell? ⟨(a2.add ((a1).toNat * 12)).block, (a2.add ((a1).toNat * 12)).off + 6, none⟩ = some (.int .i64 ((rd_T41 l0 a1).f3.f0)) ∧ w'.cell? ⟨(a2.add ((a1).toNat * 12)).block, (a2.add ((a1).toNat * 12)).off + 7, none⟩ = some (.int .i64 ((rd_T41 l0 a1).f3.f1)) ∧ w'.cell? ⟨(a2.add ((a1).toNat * 12)).block, (a2.add ((a1).toNat * 12)).off + 8, none⟩ = some (.int .i64 ((rd_T41 l0 a1).f4)) ∧ w'.cell? ⟨(a2.add ((a1).toNat * 12)).block, (a2.add ((a1).toNat * 12)).off + 9, none⟩ = some (.int .i64 ((rd_T41 l0 a1).f5)) ∧ w'.cell? ⟨(a2.add ((a1).toNat * 12)).block, (a2.add ((a1).toNat * 12)).off + 10, none⟩ = some (.int .i64 ((rd_T41 l0 a1).f6)) ∧ w'.cell? ⟨(a2.add ((a1).toNat * 12)).block, (a2.add ((a1).toNat * 12)).off + 11, none⟩ = some (.int .i64 ((rd_T41 l0 a1).f7))) (ds := []) #[false, false, false, false, false, false, false, false, false, false, false, false, false, false, false, false, false, false, false, false, false, false, false, false] (by kernel_rfl) rfl rfl ⟨(hB HB aQ), (hB HB aP), (hB HB aO), (hB HB aN), (hB HB aM), (hB HB aL), (hB HB aK), (hB HB aJ), (hB HB aI), (hB HB aH), (hB HB a6), (hB HB a5)⟩ (fun hHeld => ?_); refine with_tabW spec_BodiesOk.tab4 spec_BodiesOk.bits4 (fun HT_ HW_ => ?_); generalize wr.drew = dB at HB a7 a8 a3 a4 a9 aA aB aC aD aE aF aG hHeld ⊢; refine pu 0 (some 10) (fl 24 1) HT_ ?_; refine pu 1 (some 11) (fl 24 3) HT_ ?_; refine pu 2 (some 12) (fl 24 7) HT_ ?_; refine tk12 3 (some 13) (fl 24 15) HT_ HW_ hHeld ?_; refine on 4 (some 14) (fl 24 31) HT_ (fun K hK => ?_); refine go1 Try.func54 #[.agg #[.int .i64 ((rd_T41 l0 a1).f0), .int .i64 ((rd_T41 l0 a1).f1.f0), .int .i64 ((rd_T41 l0 a1).f1.f1), .int .i64 ((rd_T41 l0 a1).f1.f2), .int .i64 ((rd_T41 l0 a1).f2.f0), .int .i64 ((rd_T41 l0 a1).f2.f1), .int .i64 ((rd_T41 l0 a1).f3.f0), .int .i64 ((rd_T41 l0 a1).f3.f1), .int .i64 ((rd_T41 l0 a1).f4), .int .i64 ((rd_T41 l0 a1).f5), .int .i64 ((rd_T41 l0 a1).f6), .int .i64 ((rd_T41 l0 a1).f7)]] ?_
    case L3 =>
      with_reducible refine (spec_BodyOk.calls k1 ((rd_T41 l0 a1).f0) ((rd_T41 l0 a1).f1.f0) ((rd_T41 l0 a1).f1.f1) ((rd_T41 l0 a1).f1.f2) ((rd_T41 l0 a1).f2.f0) ((rd_T41 l0 a1).f2.f1) ((rd_T41 l0 a1).f3.f0) ((rd_T41 l0 a1).f3.f1) ((rd_T41 l0 a1).f4) ((rd_T41 l0 a1).f5) ((rd_T41 l0 a1).f6) ((rd_T41 l0 a1).f7) true _ bM.out).mono ?_
      rintro e dC ⟨rfl, hb⟩; refine ⟨_, rfl, ?_⟩; replace HB := bS HB hb; clear hb; refine hK.out _ _ ⟨(hB HB aQ), (hB HB aP), (hB HB aO), (hB HB aN), (hB HB aM), (hB HB aL), (hB HB aK), (hB HB aJ), (hB HB aI), (hB HB aH), (hB HB a6), (hB HB a5)⟩ (fun hHeld => ?_); clear hK K; refine nm (some 14) ?_; refine pu 5 (some 15) (fl 24 63) HT_ ?_; refine pu 6 (some 16) (fl 24 127) HT_ ?_; refine pu 7 (some 17) (fl 24 255) HT_ ?_; refine pu 8 (some 18) (fl 24 511) HT_ ?_; refine pu 9 (some 19) (fl 24 1023) HT_ ?_; refine pv 10 (some 20) (fl 24 2047) HT_ ?_; refine pv 11 (some 21) (fl 24 4095) HT_ ?_; refine pv 12 (some 22) (fl 24 8191) HT_ ?_; refine pv 13 (some 23) (fl 24 16383) HT_ ?_; refine pv 14 (some 24) (fl 24 32767) HT_ ?_; refine pv 15 (some 25) (fl 24 65535) HT_ ?_; refine pv 16 (some 26) (fl 24 131071) HT_ ?_; refine pv 17 (some 27) (fl 24 262143) HT_ ?_; refine pv 18 (some 28) (fl 24 524287) HT_ ?_; refine pv 19 (some 29) (fl 24 1048575) HT_ ?_; refine pv 20 (some 30) (fl 24 2097151) HT_ ?_; refine pv 21 (some 31) (fl 24 4194303) HT_ ?_; refine pu 22 (some 32) (fl 24 8388607) HT_ ?_; refine pu 23 (some 33) (fl 24 16777215) HT_ ?_; refine done_ (done_of HT_.out (by kernel_rfl)) ?_
      try go_wp2
      go_roundg k1
      case measure => have := cH.out; omega
      exact ⟨(wrap64 (a1 + 1)), qG, H', ⟨by have := cH.out; omega⟩, ⟨qL HB⟩⟩
    case L4 =>
      with_reducible refine (spec_BodyOk.calls k1 ((rd_T41 l0 a1).f0) ((rd_T41 l0 a1).f1.f0) ((rd_T41 l0 a1).f1.f1) ((rd_T41 l0 a1).f1.f2) ((rd_T41 l0 a1).f2.f0) ((rd_T41 l0 a1).f2.f1) ((rd_T41 l0 a1).f3.f0) ((rd_T41 l0 a1).f3.f1) ((rd_T41 l0 a1).f4) ((rd_T41 l0 a1).f5) ((rd_T41 l0 a1).f6) ((rd_T41 l0 a1).f7) false _ bM.out).mono ?_
      rintro e dD ⟨rfl, hb⟩; refine ⟨_, rfl, ?_⟩; replace HB := bS HB hb; clear hb; refine hK.out _ _ ⟨(hB HB aQ), (hB HB aP), (hB HB aO), (hB HB aN), (hB HB aM), (hB HB aL), (hB HB aK), (hB HB aJ), (hB HB aI), (hB HB aH), (hB HB a6), (hB HB a5)⟩ (fun hHeld => ?_); clear hK K; refine nm (some 14) ?_; refine pu 5 (some 15) (fl 24 63) HT_ ?_; refine pu 6 (some 16) (fl 24 127) HT_ ?_; refine pv 7 (some 17) (fl 24 255) HT_ ?_; refine pv 8 (some 18) (fl 24 511) HT_ ?_; refine pv 9 (some 19) (fl 24 1023) HT_ ?_; refine pv 10 (some 20) (fl 24 2047) HT_ ?_; refine pv 11 (some 21) (fl 24 4095) HT_ ?_; refine pv 12 (some 22) (fl 24 8191) HT_ ?_; refine pv 13 (some 23) (fl 24 16383) HT_ ?_; refine pv 14 (some 24) (fl 24 32767) HT_ ?_; refine pv 15 (some 25) (fl 24 65535) HT_ ?_; refine pv 16 (some 26) (fl 24 131071) HT_ ?_; refine pv 17 (some 27) (fl 24 262143) HT_ ?_; refine pv 18 (some 28) (fl 24 524287) HT_ ?_; refine pv 19 (some 29) (fl 24 1048575) HT_ ?_; refine pv 20 (some 30) (fl 24 2097151) HT_ ?_; refine pv 21 (some 31) (fl 24 4194303) HT_ ?_; refine pv 22 (some 32) (fl 24 8388607) HT_ ?_; refine pu 23 (some 33) (fl 24 16777215) HT_ ?_; refine done_ (done_of HT_.out (by kernel_rfl)) ?_
      try go_wp2
      go_ret
      exact ⟨qE, qL HB⟩
    case L5 =>
      go_wp2
      go_ret
      exact ⟨qE, qL HB⟩
      
end Go.Proofs.Ytdngjedhbnoaoaa.PBig
